/- Tracks: which moves follow; ways and their lengths. -/
import Derived.Test.YtppebpagcocogaaGreatS13
set_option linter.unusedSimpArgs false
set_option linter.unusedVariables false
set_option linter.unusedSectionVars false
namespace Go.Ai.Sx
open Option renaming bind->Zb,bind_some->Zs
def zi5 (m:zG):zo:=(m.1,!m.2.1,())
def zbZ (p:Plan) (m:zG):zcp:=nd p (atS p (zi5 m))
def zn3 (p:Plan) (m:zG):Int:=((zbZ p m).2.2.1.idxOf (zi5 m):Nat)
def zdC (p:Plan) (m k:zG):Bool:=(zbZ p m).2.2.1.zipIdx.any fun y=>ziJ (zbZ p m) (zn3 p m) (y.2:Int)&&y.1==k
def ztp (e:zo):Int:=if e.2.1 then 2*e.1+1 else 2*e.1
def zqL (n:Int):zG:=(n/2,n%2==1,())
theorem zpC {e:zo} (h:0≤e.1):zqL (ztp e)=e:=by
 obtain ⟨r,b,⟨⟩⟩:=e;unfold zqL ztp;simp only [] at h;cases b with
 | false=>
  simp only [Bool.false_eq_true,if_false];rw [show 2*r/2=r by omega,show 2*r%2=0 by omega]; rfl
 | true=>
  simp only [if_true];rw [show (2*r+1)/2=r by omega,show (2*r+1)%2=1 by omega]; rfl
theorem zsh {e:zo} (h:0≤e.1∧e.1<1000):zdI (e.1,e.2.1,())=some (ztp e):=by
 unfold zdI ztp;simp only [];cases e.2.1 with
 | false=>
  simp only [cond_false,Bool.false_eq_true,if_false];rw [zd (by omega) (by omega)]
 | true=>
  simp only [cond_true,if_true];rw [zd (n:=2*e.1) (by omega) (by omega),zd (by omega) (by omega)]
theorem zxw {n:Int} (h:0≤n∧n<10000):zeU n=some (zqL n):=by
 unfold zeU;rw [zbJ (by omega) (by omega),Zs];unfold zos;rw [if_neg (by omega),Zs,Int.tmod_eq_emod_of_nonneg h.1];rfl
section
variable {p:Plan} (hp:zib p) {m:zG} (hm:0≤m.1∧m.1<p.2.1.length)
include hp hm
theorem znF:0≤atS p (zi5 m)∧atS p (zi5 m)<p.1.length:=hp.at_bd (e:=zi5 m) hm
theorem zko:nodeB (zbZ p m)=true:=hp.nodeB (znF hp hm)
theorem zoM:zi5 m∈(zbZ p m).2.2.1:=hp.mem (e:=zi5 m) hm
theorem zvF:0≤zn3 p m∧zn3 p m<(zbZ p m).2.2.1.length∧zn3 p m≤10:=by
 have h1:=List.idxOf_lt_length_iff.2 (zoM hp hm);have h2:=ze1 (zko hp hm);unfold zn3;omega
theorem zjq {e:zo} (he:e∈(zbZ p m).2.2.1):0≤e.1∧e.1<p.2.1.length:=by
 have hb:=znF hp hm;have h:=hp.at_ (atS p (zi5 m)).toNat (by omega);unfold zbZ at he;rw [hp.nd_eq hb] at he;exact (h e he).1
theorem zsi:mget (plS p) (zi5 m)=some (zn3 p m):=by
 have hb:=znF hp hm;have h1:=List.idxOf_lt_length_iff.2 (zoM hp hm);have hn:zbZ p m=p.1[(atS p (zi5 m)).toNat]'(by omega):=hp.nd_eq hb;have h2:=zxt hp (i:=(atS p (zi5 m)).toNat) (k:=(zbZ p m).2.2.1.idxOf (zi5 m)) (by omega) (by rw [← hn]; exact h1);have h3:(p.1[(atS p (zi5 m)).toNat]'(by omega)).2.2.1[(zbZ p m).2.2.1.idxOf (zi5 m)]'(by rw [← hn]; exact h1)=zi5 m:=by
  simp only [← hn];exact List.getElem_idxOf h1
 rw [h3] at h2;exact h2
def zms (p:Plan) (m:zG):List Int:=((zbZ p m).2.2.1.zipIdx.filter fun y=>ziJ (zbZ p m) (zn3 p m) (y.2:Int)).map fun y=>ztp y.1
omit hm hp in
theorem zsj:(zms p m).length≤(zbZ p m).2.2.1.length:=by
 unfold zms;rw [List.length_map];have:=List.length_filter_le (fun y:zo×Nat=>ziJ (zbZ p m) (zn3 p m) (y.2:Int)) (zbZ p m).2.2.1.zipIdx;rw [List.length_zipIdx] at this;exact this
theorem zuQ {n:Int} (h:n∈zms p m):0≤n∧n<10000:=by
 unfold zms at h;obtain ⟨y,hy,rfl⟩:=List.mem_map.1 h;have h1:=(List.mem_filter.1 hy).1;have h2:=zjq hp hm (e:=y.1) (List.fst_mem_of_mem_zipIdx h1);have hR:=hp.r;unfold ztp;split<;>omega
theorem zsk:iter (σ:=((List Int)×Int)) (τ:=(List Int)) (fun s20=>
cond (decide (s20.2<(zn (zbZ p m).2.2.1))) (Zb (idx (zbZ p m).2.2.1 s20.2) fun x23=>
Zb (zef m) fun y27=>
Zb (zbm ((zbZ p m,()):zaC) ((mget (zoL p).2.2.1 y27).getD 0) s20.2) fun y28=>
cond (y28) (Zb (zdI ((x23.1,x23.2.1,()):zG)) fun y30=>
Zb (zdQ 8 s20.1 ([y30])) fun x31=>
some (.inl (x31,(w64 (s20.2+1))))) (some (.inl (s20.1,(w64 (s20.2+1)))))) (some (.inr s20.1))) big ([],0)=some (zms p m):=by
 have hR:=hp.r;have hes:=ze1 (zko hp hm);have hpb:=zvF hp hm;rw [zcR (s0:=(([]:List Int),(0:Int))) (zbZ p m).2.2.1 (fun k c=>(c,(k:Int))) (fun k c e=>(.inl (if ziJ (zbZ p m) (zn3 p m) (k:Int) then c++[ztp e] else c):List Int⊕List Int)) id (fun k c=>c.length≤k) [] rfl (by omega) (by simp)]
 ·rw [zki (fun k c e=>if ziJ (zbZ p m) (zn3 p m) (k:Int) then c++[ztp e] else c) id];unfold zms;have key:∀ (L:List (zo×Nat)) (c:List Int),L.foldl (fun c y=>if ziJ (zbZ p m) (zn3 p m) (y.2:Int) then c++[ztp y.1] else c) c=c++(L.filter fun y=>ziJ (zbZ p m) (zn3 p m) (y.2:Int)).map fun y=>ztp y.1:=by
   intro L;induction L with
   | nil=>intro c; simp
   | cons y L ih=>
    intro c;rw [List.foldl_cons,ih,List.filter_cons];cases ziJ (zbZ p m) (zn3 p m) (y.2:Int) with
    | true=>simp
    | false=>simp
  rw [key,List.nil_append]; rfl
 ·intro k hk c hc;simp only [];refine ⟨?_,fun b' hb=>?_⟩
  ·have he:=zjq hp hm (List.getElem_mem hk);rw [zN hk,cond_true,zbQ hk,Zs];show Zb (some (zi5 m)) _=_;rw [Zs];have hpl:(zoL p).2.2.1=plS p:=rfl;rw [hpl,zsi hp hm,Option.getD_some,zxv (zko hp hm) ⟨hpb.1,hpb.2.2⟩ (by omega),Zs,zsh (e:=(zbZ p m).2.2.1[k]) ⟨he.1,by omega⟩,Zs,za5 (by simp only [List.length_singleton]; omega),Zs,zx (by omega)];cases ziJ (zbZ p m) (zn3 p m) (k:Int)<;>rfl
  ·cases hb;split
   ·rw [List.length_append,List.length_singleton]; omega
   ·omega
 ·intro c _;simp only [];rw [zO,cond_false]; rfl
theorem zqw (k:zG):zaW (zoL p) m k=some (zdC p m k):=by
  have hb:=znF hp hm;have hes:=ze1 (zko hp hm);have hlen:=zsj (p:=p) (m:=m);obtain ⟨ys,hy,hperm⟩:=zsf (xs:=zms p m) (by omega);unfold zaW zcM zbA;rw [Zs];simp only [];show Zb (Zb (some (zi5 m)) _) _=_;rw [Zs];have hend:=(zh9 (p:=(zoL p).1) (e:=zi5 m) hm).1;have hpl:atS (zoL p).1 (zi5 m)=atS p (zi5 m):=rfl;rw [hend,Zs,hpl];have hn:idx (zoL p).1.1 (atS p (zi5 m))=some (zbZ p m):=za1 (l:=p.1) (d:=N0) hb.1 hb.2;rw [hn,Zs,zsk hp hm,Zs,hy,Zs];have hys:∀ n∈ys,0≤n∧n<10000:=fun n h=>zuQ hp hm (hperm.mem_iff.1 h);have hyl:ys.length≤4:=by have:=hperm.length_eq; omega
  have key:iter (σ:=(Int×(Bool⊕Bool))) (τ:=(Bool⊕Bool)⊕(Bool⊕Bool)) (fun s50=>
cond (decide (s50.1<(zn ys))) (Zb (idx ys s50.1) fun x53=>
Zb (zeU x53) fun y54=>
Zb (goL s50.2) fun s55=>
Zb (cond (y54==k) (some (.inr true)) (some (.inl s55))) fun y56=>
cond (!(y56).isLeft) (some (.inr (.inr y56))) (some (.inl ((w64 (s50.1+1)),y56)))) (some (.inr (.inl s50.2)))) big (0,(.inl false))=some (if ys.any (fun n=>zqL n==k) then .inr (.inr true) else .inl (.inl false)):=by
    rw [zcR (s0:=((0:Int),(Sum.inl false:Bool⊕Bool))) ys (fun i (_:Unit)=>((i:Int),(Sum.inl false:Bool⊕Bool))) (fun _ _ n=>if zqL n==k then .inr (.inr (.inr true)) else .inl ()) (fun _=>.inl (.inl false)) (fun _ _=>True) () rfl (by omega) trivial]
    · congr 1;have:∀ (l:List Int) (i:Nat),zfb (fun _ (_:Unit) n=>if zqL n==k then .inr (.inr (.inr true)) else .inl ()) (fun _=>.inl (.inl false)) l i ()=(if l.any (fun n=>zqL n==k) then .inr (.inr true) else .inl (.inl false):(Bool⊕Bool)⊕(Bool⊕Bool)):=by
        intro l;induction l with
        | nil=>intro i; rfl
        | cons n l ih=>
          intro i;rw [zfb,List.any_cons];cases h:(zqL n==k) with
          | true=>rfl
          | false=>
            simp only [Bool.false_eq_true,if_false,Bool.false_or];exact ih (i+1)
      exact this ys 0
    · intro i hi _ _;refine ⟨?_,fun _ _=>trivial⟩;simp only [];rw [zN hi,cond_true,zbQ hi,Zs,zxw (hys _ (List.getElem_mem hi)),Zs,zx (by omega)];cases (zqL ys[i]==k)<;>rfl
    · intro _ _;simp only [];rw [zO,cond_false]
  rw [key];have hany:ys.any (fun n=>zqL n==k)=zdC p m k:=by
    have h1:ys.any (fun n=>zqL n==k)=(zms p m).any (fun n=>zqL n==k):=by
      rw [Bool.eq_iff_iff,List.any_eq_true,List.any_eq_true];constructor
      · rintro ⟨n,h,q⟩; exact ⟨n,hperm.mem_iff.1 h,q⟩
      · rintro ⟨n,h,q⟩; exact ⟨n,hperm.mem_iff.2 h,q⟩
    rw [h1];unfold zms zdC;rw [Bool.eq_iff_iff,List.any_eq_true,List.any_eq_true];constructor
    · rintro ⟨n,h,q⟩
      obtain ⟨y,hy,rfl⟩:=List.mem_map.1 h;obtain ⟨hy1,hy2⟩:=List.mem_filter.1 hy;rw [zpC (zjq hp hm (List.fst_mem_of_mem_zipIdx hy1)).1] at q;exact ⟨y,hy1,by rw [hy2,q]; rfl⟩
    · rintro ⟨y,h,q⟩
      rw [Bool.and_eq_true] at q;refine ⟨ztp y.1,List.mem_map.2 ⟨y,List.mem_filter.2 ⟨h,q.1⟩,rfl⟩, ?_⟩;rw [zpC (zjq hp hm (List.fst_mem_of_mem_zipIdx h)).1];exact q.2
  rw [hany];cases zdC p m k<;>rfl
omit hp hm in
theorem znG (n:zcp) (e:zo) (hl:n.2.2.1.length≤1000):zdy n e=some (if e∈n.2.2.1 then ((n.2.2.1.idxOf e:Nat):Int) else -1):=by
  unfold zdy;have key:∀ (k i:Nat),i+k=n.2.2.1.length->Lp (fun s5:Int=>
cond (decide (s5<(zn n.2.2.1))) (Zb (idx n.2.2.1 s5) fun x9=>
cond (x9==e) (some (Sum.inr (Sum.inr s5:Unit⊕Int))) (some (.inl (w64 (s5+1))))) (some (.inr (.inl ())))) k (i:Int) (if e∈n.2.2.1.drop i then .inr ((i+(n.2.2.1.drop i).idxOf e:Nat):Int) else .inl ()):=by
    intro k;induction k with
    | zero=>
      intro i hi;have:i=n.2.2.1.length:=by omega
      subst this;rw [List.drop_length,if_neg (by simp)];exact Lp.done (by simp only [zO,cond_false])
    | succ k ih=>
      intro i hi;have hlt:i<n.2.2.1.length:=by omega
      rw [List.drop_eq_getElem_cons hlt];by_cases hx:n.2.2.1[i]=e
      · rw [if_pos (by rw [hx]; exact List.mem_cons_self),hx,List.idxOf_cons_self];refine Lp.done ?_;rw [zN hlt,cond_true,zbQ hlt,Zs,hx,beq_self_eq_true]; rfl
      · have hb:(n.2.2.1[i]==e)=false:=by simpa using hx
        have h2:=ih (i+1) (by omega);have hmem:(e∈n.2.2.1[i]::n.2.2.1.drop (i+1))↔e∈n.2.2.1.drop (i+1):=by
          rw [List.mem_cons];exact ⟨fun h=>h.resolve_left (fun q=>hx q.symm),.inr⟩
        have hix:(n.2.2.1[i]::n.2.2.1.drop (i+1)).idxOf e=(n.2.2.1.drop (i+1)).idxOf e+1:=by rw [List.idxOf_cons,hb,cond_false]
        rw [hix];have e2:(if e∈n.2.2.1[i]::n.2.2.1.drop (i+1) then (Sum.inr ((i+((n.2.2.1.drop (i+1)).idxOf e+1):Nat):Int):Unit⊕Int) else .inl ())=if e∈n.2.2.1.drop (i+1) then .inr ((i+1+(n.2.2.1.drop (i+1)).idxOf e:Nat):Int) else .inl ():=by
          by_cases q:e∈n.2.2.1.drop (i+1)
          · rw [if_pos (hmem.2 q),if_pos q,show i+((n.2.2.1.drop (i+1)).idxOf e+1)=i+1+(n.2.2.1.drop (i+1)).idxOf e by omega]
          · rw [if_neg (fun w=>q (hmem.1 w)),if_neg q]
        rw [e2];refine Lp.step (s':=((i+1:Nat):Int)) ?_ h2;rw [zN hlt,cond_true,zbQ hlt,Zs,hb,cond_false,zx (by omega)]
  have h0:=key n.2.2.1.length 0 (by omega);rw [show ((0:Nat):Int)=0 from rfl,List.drop_zero] at h0;rw [h0.big (by simp only [big]; omega),Zs];by_cases q:e∈n.2.2.1
  · rw [if_pos q,if_pos q,zmf,Nat.zero_add]
  · rw [if_neg q,if_neg q,zbu]
theorem zoN (k:zG):zcP p m k=some (zdC p m k):=by
 have hb:=znF hp hm;have hok:=zko hp hm;have hes:=ze1 hok;have hpb:=zvF hp hm;unfold zcP;show Zb (some (zi5 m)) _=_;rw [Zs,(zh9 (p:=p) (e:=zi5 m) hm).2,Zs];have hn:idx p.1 (atS p (zi5 m))=some (zbZ p m):=za1 (l:=p.1) (d:=N0) hb.1 hb.2;rw [hn,Zs];show Zb (some (zi5 m)) _=_;rw [Zs,znG _ _ (by omega),if_pos (zoM hp hm),Zs];show Zb (some (k:zo)) _=_;rw [Zs,znG _ _ (by omega)];have hpos:(((zbZ p m).2.2.1.idxOf (zi5 m):Nat):Int)=zn3 p m:=rfl;rw [hpos,decide_eq_true (show zn3 p m≥0 from hpb.1)];simp only [cond_true,Zs];have hndp:(zbZ p m).2.2.1.Nodup:=hp.ndn hb;by_cases hk:(k:zo)∈(zbZ p m).2.2.1
 ·have hlt:=List.idxOf_lt_length_iff.2 hk;rw [if_pos hk,decide_eq_true (Int.natCast_nonneg _),cond_true,zuP _ ⟨hpb.1,hpb.2.2⟩ (by omega)];simp only [Zs];congr 1;unfold zdC;rw [Bool.eq_iff_iff,List.any_eq_true];constructor
  ·intro h;refine ⟨((k:zo),(zbZ p m).2.2.1.idxOf k),List.mem_zipIdx_iff_getElem?.2 (by rw [List.getElem?_eq_getElem hlt,List.getElem_idxOf]), ?_⟩;rw [Bool.and_eq_true];exact ⟨h,by simp⟩
  ·rintro ⟨⟨e,j⟩,h1,h2⟩
   rw [Bool.and_eq_true,beq_iff_eq] at h2;obtain ⟨h2,h3⟩:=h2;simp only [] at h2 h3;subst h3;have hj:=List.mem_zipIdx_iff_getElem?.1 h1;obtain ⟨hj1,hj2⟩:=List.getElem?_eq_some_iff.1 hj;have:(zbZ p m).2.2.1.idxOf e=j:=by
    have h4:=List.getElem_idxOf hlt;exact (List.getElem_inj hndp).1 (h4.trans hj2.symm)
   rw [this];exact h2
 ·rw [if_neg hk];have:zdC p m k=false:=by
   unfold zdC;rw [List.any_eq_false]
   rintro ⟨e,j⟩ h1 h2
   rw [Bool.and_eq_true,beq_iff_eq] at h2;exact hk (h2.2▸List.fst_mem_of_mem_zipIdx h1)
  rw [this];rfl
end
end Go.Ai.Sx

/- Tracks: ways and their lengths,in the program and in the reference. -/
namespace Go.Ai.Sx
open Option renaming bind->Zb,bind_some->Zs
def zqM (p:Plan) (m:zG):Bool:=inB m.1 0 (p.2.1.length-1)
def M0:zG:=(0,false,())
def zkp (p:Plan) (l:List zG) (i:Nat):Bool:=zqM p (l.getD i M0)&&(decide (i=0)||zdC p (l.getD (i-1) M0) (l.getD i M0))
def zkA (p:Plan) (l:List zG):Bool:=(List.range l.length).all (zkp p l)&&inB (zn l) 1 2000
def wlS (p:Plan) (l:List zG):Int:=zih (fun i=>zhs p (l.getD i M0).1) 0 l.length
theorem zjr {p:Plan} {m:zG}:zqM p m=true↔0≤m.1∧m.1<p.2.1.length:=by
 unfold zqM;rw [zD];omega
section
variable {p:Plan} (hp:zib p)
include hp
theorem zmt {l:List zG} (hl:l.length≤9223372036854775807) {has:zG->Option Bool} {fol:zG->zG->Option Bool} (hh:∀ m,has m=some (zqM p m)) (hf:∀ m k:zG,0≤m.1∧m.1<(p.2.1.length:Int)->fol m k=some (zdC p m k))
    {F:Int->Option (Int⊕(Unit⊕Bool))} (hF:∀ (i:Nat) (_:i<l.length),F i=Zb (has (l.getD i M0)) fun y37=>cond (!y37) (some (.inr (.inr false))) (cond (decide ((i:Int)>0)) (Zb (fol (l.getD (i-1) M0) (l.getD i M0)) fun y42=>cond (!y42) (some (.inr (.inr false))) (some (.inl (w64 ((i:Int)+1))))) (some (.inl (w64 ((i:Int)+1))))))
    (he:F l.length=some (.inr (.inl ()))):∀ (k i:Nat),i+k=l.length->(∀ j,j<i->zqM p (l.getD j M0)=true)->Lp F k (i:Int) (if (List.range' i k).all (zkp p l) then .inl () else .inr false)
  | 0,i,hi,_=>by
    have:i=l.length:=by omega
    subst this;exact Lp.done he
  | k+1,i,hi,hj=>by
    have hlt:i<l.length:=by omega
    rw [List.range'_succ,List.all_cons];cases hs:zqM p (l.getD i M0) with
    | false=>
      have:zkp p l i=false:=by unfold zkp; rw [hs]; rfl
      rw [this];refine Lp.done ?_;rw [hF i hlt,hh,hs]; rfl
    | true=>
      have hj':∀ j,j<i+1->zqM p (l.getD j M0)=true:=fun j h=>by
        by_cases e:j=i
        · rw [e]; exact hs
        · exact hj j (by omega)
      have ih:=zmt hl hh hf hF he k (i+1) (by omega) hj';by_cases h0:i=0
      · subst h0;have:zkp p l 0=true:=by unfold zkp; rw [hs]; rfl
        rw [this,Bool.true_and];refine Lp.step (s':=((0+1:Nat):Int)) ?_ ih;rw [hF 0 hlt,hh,hs]; rfl
      · have hw:zkp p l i=zdC p (l.getD (i-1) M0) (l.getD i M0):=by unfold zkp; rw [hs,decide_eq_false h0]; rfl
        rw [hw];have hprev:=zjr.1 (hj (i-1) (by omega));have hFi:F i=cond (!zdC p (l.getD (i-1) M0) (l.getD i M0)) (some (.inr (.inr false))) (some (.inl ((i+1:Nat):Int))):=by
          rw [hF i hlt,hh,hs,decide_eq_true (show (i:Int)>0 by omega),hf _ _ hprev,zx (by omega)]; rfl
        cases hb:zdC p (l.getD (i-1) M0) (l.getD i M0) with
        | false=>
          rw [hb] at hFi;rw [Bool.false_and];exact Lp.done hFi
        | true=>
          rw [hb] at hFi;rw [Bool.true_and];exact Lp.step hFi ih
theorem zvG (m:zG):zbD (zoL p) m=some (zqM p m):=by
 unfold zbD;rw [twithin,Zs];have:w64 (zn (zoL p).1.2.1-1)=p.2.1.length-1:=wrails hp.r;rw [this]; rfl
theorem zuR (m:zG):zeV p m=some (zqM p m):=by
 unfold zeV;rw [zr5,Zs,wrails hp.r]; rfl
theorem zxx {l:List zG} (hl:l.length≤9223372036854775807):zck (zoL p) l=some (zkA p l):=by
  unfold zck;have hL:=zmt hp hl (fun m=>zvG hp m) (fun m k hm=>zqw hp hm k) (F:=fun s22=>
cond (decide (s22<(zn l))) (Zb (idx l s22) fun x25=>
Zb (zbD (zoL p) x25) fun y37=>
cond (!y37) (some (.inr (.inr false))) (cond (decide (s22>0)) (Zb (idx l (w64 (s22-1))) fun x41=>
Zb (zaW (zoL p) x41 x25) fun y42=>
cond (!y42) (some (.inr (.inr false))) (some (.inl (w64 (s22+1))))) (some (.inl (w64 (s22+1)))))) (some (.inr (.inl ())))) (fun i hi=>by
      rw [zN hi,cond_true,zp M0 hi,Zs];by_cases h0:i=0
      · subst h0; rfl
      · rw [decide_eq_true (show (i:Int)>0 by omega),zd (n:=(i:Int)-1) (by omega) (by omega),show (i:Int)-1=((i-1:Nat):Int) by omega,zp M0 (show i-1<l.length by omega)];rfl) (by simp only [zO,cond_false]) l.length 0 (by omega) (fun j hj=>by omega)
  rw [show ((0:Nat):Int)=0 from rfl] at hL;rw [hL.big (by simp only [big]; omega),Zs,← List.range_eq_range'];unfold zkA;cases (List.range l.length).all (zkp p l) with
  | false=>rfl
  | true=>simp only [if_true,zbu,twithin]; rfl
theorem zsl {l:List zG} (hl:l.length≤9223372036854775807):zeB p l=some (zkA p l):=by
  unfold zeB;have hL:=zmt hp hl (fun m=>zuR hp m) (fun m k hm=>zoN hp hm k) (F:=fun s26=>
cond (decide (s26<(zn l))) (Zb (idx l s26) fun x43=>
Zb (zeV p x43) fun y44=>
cond (!y44) (some (.inr (.inr false))) (cond (decide (s26>0)) (Zb (idx l (w64 (s26-1))) fun x48=>
Zb (idx l s26) fun x49=>
Zb (zcP p x48 x49) fun y50=>
cond (!y50) (some (.inr (.inr false))) (some (.inl (w64 (s26+1))))) (some (.inl (w64 (s26+1)))))) (some (.inr (.inl ())))) (fun i hi=>by
      rw [zN hi,cond_true,zp M0 hi,Zs];by_cases h0:i=0
      · subst h0; rfl
      · rw [decide_eq_true (show (i:Int)>0 by omega),zd (n:=(i:Int)-1) (by omega) (by omega),show (i:Int)-1=((i-1:Nat):Int) by omega,zp M0 (show i-1<l.length by omega)];rfl) (by simp only [zO,cond_false]) l.length 0 (by omega) (fun j hj=>by omega)
  rw [show ((0:Nat):Int)=0 from rfl] at hL;rw [hL.big (by simp only [big]; omega),Zs,← List.range_eq_range'];unfold zkA;cases (List.range l.length).all (zkp p l) with
  | false=>rfl
  | true=>simp only [if_true,zbu,zr5]; rfl
structure zhI (p:Plan) (l:List zG):Prop where
 n:1≤l.length∧l.length≤2000
 m:∀ i,i<l.length->0≤(l.getD i M0).1∧(l.getD i M0).1<p.2.1.length
omit hp in
theorem zgW {l:List zG} (h:zkA p l=true):zhI p l:=by
 unfold zkA at h;rw [Bool.and_eq_true,zD,zm] at h;refine ⟨by omega,fun i hi=>?_⟩;have:=List.all_eq_true.1 h.1 i (List.mem_range.2 hi);unfold zkp at this;rw [Bool.and_eq_true] at this;exact zjr.1 this.1
theorem zkq {i:Int} (hi:0≤i∧i<p.2.1.length):1≤zhs p i∧zhs p i≤31000000:=hp.len hi
theorem zBm {l:List zG} (h:zhI p l):0≤wlS p l∧wlS p l≤31000000*l.length:=
 ziH _ _ fun i _ hi=>by have:=zkq hp (h.m i (by omega)); omega
theorem zsm {l:List zG} (h:zhI p l) {lg:zG->Option Int} (hg:∀ m:zG,0≤m.1∧m.1<p.2.1.length->lg m=some (zhs p m.1)):iter (σ:=(Int×Int)) (τ:=(Int)) (fun s6=>
cond (decide (s6.2<(zn l))) (Zb (idx l s6.2) fun x9=>
Zb (lg x9) fun x12=>
some (.inl ((w64 (s6.1+x12)),(w64 (s6.2+1))))) (some (.inr s6.1))) big (0,0)=some (wlS p l):=by
  have hn:=h.n;have hL:=zmm (B:=31000000) (N:=l.length) (f:=fun i=>zhs p (l.getD i M0).1) (F:=fun s6:Int×Int=>
cond (decide (s6.2<(zn l))) (Zb (idx l s6.2) fun x9=>
Zb (lg x9) fun x12=>
some (.inl ((w64 (s6.1+x12)),(w64 (s6.2+1))))) (some (.inr s6.1))) (by omega) (by omega) (by omega) (fun i hi=>by have:=zkq hp (h.m i hi); omega) l.length 0 0 (by omega) (by omega) (by omega) (fun i s _ hi=>by
      simp only [];rw [zN hi,cond_true,zp M0 hi,Zs,hg _ (h.m i hi),Zs]) (fun s=>by simp only [zO,cond_false])
  rw [show ((0:Nat):Int)=0 from rfl,Int.zero_add] at hL;exact hL.big (by simp only [big]; omega)
theorem zsn {i:Int} (hi:0≤i∧i<p.2.1.length):idx (zoL p).2.1 i=some (zhs p i):=by
 show idx ((List.range p.2.1.length).map fun i:Nat=>zhs p (i:Int)) i=_;rw [zrX hi.1 (by rw [List.length_map,List.length_range]; exact hi.2)];simp only [List.getElem_map,List.getElem_range];rw [Int.toNat_of_nonneg hi.1]
theorem zyY {l:List zG} (h:zhI p l):za3 (zoL p) l=some (wlS p l):=by
 unfold za3;rw [zsm hp h (lg:=fun x9=>idx (zoL p).2.1 x9.1) (fun m hm=>zsn hp hm)]; rfl
theorem ziK {i:Int} (hi:0≤i∧i<p.2.1.length):zaH p i=some (zhs p i):=zqt hi (hp.ix hi) (hp.spots hi).1
theorem zvH {l:List zG} (h:zhI p l):zcf p l=some (wlS p l):=by
 unfold zcf;rw [zsm hp h (lg:=fun x9=>zaH p x9.1) (fun m hm=>ziK hp hm)]; rfl
end
theorem zi6 (p:Plan) {l:List zG} (hl:l.length≤9223372036854775807):zcd p l=some (if zaP p&&zkA p l then (wlS p l,0) else (0,2)):=by
 unfold zcd;rw [zsg];cases hv:zaP p with
 | false=>rfl
 | true=>
  have hp:=zbY hv;simp only [if_true,Zs,Bool.not_true,cond_false,zxx hp hl,Bool.true_and];cases hw:zkA p l with
  | false=>rfl
  | true=>
   simp only [Bool.not_true,cond_false,zyY hp (zgW hw),if_true,Zs]
theorem zso (p:Plan) (i:Int):zb8 p i=some (if zaP p&&zqM p (i,false,()) then (zhs p i,0) else (0,2)):=by
 unfold zb8;rw [zsg];cases hv:zaP p with
 | false=>rfl
 | true=>
  have hp:=zbY hv;simp only [if_true,Zs,Bool.not_true,cond_false,zvG hp,Bool.true_and];cases hw:zqM p (i,false,()) with
  | false=>rfl
  | true=>
   have hi:=zjr.1 hw;simp only [Bool.not_true,cond_false,zsn hp hi,if_true,Zs]
end Go.Ai.Sx

/- Motion: looking for a place in a rising row. -/
namespace Go.Ai.Sx
open Option renaming bind->Zb,bind_some->Zs
theorem zuS (a b:Int):za2 a b=some (decide (a<b)):=by
 unfold za2;simp only [zdk,Zs,bne_self_eq_false,cond_false]
theorem zuT {a b:Int} (h:0≤a+b∧a+b<4611686018427387904):zot .u64 (IntKind.u64.wrap (w64 (a+b))) 1=some ((a+b)/2)∧w64 ((a+b)/2)=(a+b)/2:=by
 have e1:w64 (a+b)=a+b:=zd (by omega) (by omega);have e2:IntKind.u64.wrap (a+b)=a+b:=by simp only [IntKind.wrap,IntKind.bits,IntKind.signed]; simp; omega
 rw [e1,e2];unfold zot;rw [if_pos (by omega)];refine ⟨?_,zd (by omega) (by omega)⟩;congr 1;simp [IntKind.bits];rw [Int.fdiv_eq_ediv_of_nonneg _ (by omega)]
def Rising (xs:List Int):Prop:=∀ i j,i<j->j<xs.length->xs.getD i 0<xs.getD j 0
theorem bsearch {xs:List Int} (hr:Rising xs) (hl:xs.length≤1000000) (t:Int):∃ (i:Nat) (b:Bool),zH xs t=some ((i:Int),b)∧i≤xs.length∧(∀ j,j<i->xs.getD j 0<t)∧∀ j,i≤j->j<xs.length->t≤xs.getD j 0:=by
  have hT:Tot (fun r:Int=>∃ i:Nat,r=(i:Int)∧i≤xs.length∧(∀ j,j<i->xs.getD j 0<t)∧∀ j,i≤j->j<xs.length->t≤xs.getD j 0) (iter (σ:=(Int×Int)) (τ:=(Int)) (fun s6=>
cond (decide (s6.1<s6.2)) (Zb (zot .u64 (IntKind.u64.wrap (w64 (s6.1+s6.2))) 1) fun x9=>
Zb (idx xs (w64 x9)) fun x10=>
Zb (za2 x10 t) fun y11=>
cond (y11) (some (.inl ((w64 ((w64 x9)+1)),s6.2))) (some (.inl (s6.1,(w64 x9))))) (some (.inr s6.1))) big (0,(zn xs))):=by
    refine Tot.iter (fun s:Int×Int=>∃ lo hi:Nat,s=((lo:Int),(hi:Int))∧lo≤hi∧hi≤xs.length∧(∀ j,j<lo->xs.getD j 0<t)∧∀ j,hi≤j->j<xs.length->t≤xs.getD j 0) _ (fun s=>(s.2-s.1).toNat) ⟨0,xs.length,rfl,by omega,by omega,fun j hj=>by omega,fun j h1 h2=>by omega⟩ (by simp only [zm,big]; omega) ?_
    rintro s ⟨lo,hi,rfl,h1,h2,h3,h4⟩
    simp only [];by_cases hlt:lo<hi
    · obtain ⟨e1,e2⟩:=zuT (a:=(lo:Int)) (b:=(hi:Int)) ⟨by omega,by omega⟩;obtain ⟨m,hm⟩:∃ m:Nat,((lo:Int)+hi)/2=(m:Int):=⟨(((lo:Int)+hi)/2).toNat,by omega⟩;rw [decide_eq_true (show (lo:Int)<hi by omega),cond_true,e1,Zs,e2,hm,zp 0 (show m<xs.length by omega),Zs,zuS,Zs];by_cases hc:xs.getD m 0<t
      · rw [decide_eq_true hc,cond_true,zx (by omega)];refine Tot.some ⟨⟨m+1,hi,rfl,by omega,h2,fun j hj=>?_,h4⟩,by simp only []; omega⟩;by_cases e:j=m
        · rw [e]; exact hc
        · have:=hr j m (by omega) (by omega); omega
      · rw [decide_eq_false hc,cond_false];refine Tot.some ⟨⟨lo,m,rfl,by omega,by omega,h3,fun j hj hjl=>?_⟩,by simp only []; omega⟩;by_cases e:j=m
        · rw [e]; omega
        · have:=hr m j (by omega) hjl; omega
    · have:lo=hi:=by omega
      subst this;rw [decide_eq_false (by omega),cond_false];exact Tot.some ⟨lo,rfl,by omega,h3,h4⟩
  obtain ⟨r,h1,i,rfl,h2,h3,h4⟩:=hT;have hb:∃ b:Bool,zH xs t=some ((i:Int),b):=by
    unfold zH;rw [h1,Zs];by_cases hlt:i<xs.length
    · rw [zN hlt,cond_true,zp 0 hlt,Zs];cases (xs.getD i 0==t) with
      | true=>exact ⟨true,rfl⟩
      | false=>
        simp only [cond_false,zda,Zs,bne_self_eq_false];exact ⟨false,rfl⟩
    · rw [decide_eq_false (show ¬ (i:Int)<zn xs by rw [zm]; omega)];exact ⟨false,rfl⟩
  obtain ⟨b,hb⟩:=hb;exact ⟨i,b,hb,h2,h3,h4⟩
section
variable (p:Plan) (way:List zG)
def mvl (i:Nat):Int:=zhs p (way.getD i M0).1
def zbq (i:Nat):Int:=zih (mvl p way) 0 i
def zht (i:Nat):Rail:=rl0 p (way.getD i M0).1
def zkL (i:Nat):Int:=(zht p way i).2.2.2.1
def zgX (i:Nat):Int:=if (way.getD i M0).2.1 then -(zht p way i).2.2.2.2.1 else (zht p way i).2.2.2.2.1
def zf8:List Int:=rlN way.length fun i=>zbq p way (i+1)
def znH:List Int:=rlN way.length (zkL p way)
def znI:List Int:=rlN way.length (zgX p way)
end
theorem znJ (f:Nat->Int):∀ (k a:Nat),zih f a (k+1)=zih f a k+f (a+k)
 | 0,a=>by simp [zih]
 | k+1,a=>by
  rw [zih,znJ f k (a+1),zih];rw [show a+1+k=a+(k+1) by omega];omega
theorem zhf (p:Plan) (way:List zG) (i:Nat):zbq p way (i+1)=zbq p way i+mvl p way i:=by
 unfold zbq;rw [znJ,Nat.zero_add]
theorem zdp {A:Type} (n:Nat) (f:Nat->A):(rlN n f).length=n:=by unfold rlN; simp
theorem ziL {A:Type} {n:Nat} {f:Nat->A} {i:Nat} (d:A) (h:i<n):(rlN n f).getD i d=f i:=by
 unfold rlN;simp [List.getD,h]
section
variable {p:Plan} {way:List zG} (hp:zib p) (hw:zhI p way)
include hp hw
theorem zsp {i:Nat} (hi:i<way.length):1≤mvl p way i∧mvl p way i≤31000000:=zkq hp (hw.m i hi)
theorem zls {i j:Nat} (h:i<j) (hj:j≤way.length):zbq p way i<zbq p way j:=by
 induction j with
 | zero=>omega
 | succ j ih=>
  have h1:=zsp hp hw (i:=j) (by omega);rw [zhf];by_cases e:i=j
  ·subst e; omega
  ·have:=ih (by omega) (by omega); omega
theorem zhg {i:Nat} (hi:i≤way.length):0≤zbq p way i∧zbq p way i≤62000000000:=by
 have h1:=ziH (f:=mvl p way) (B:=31000000) i 0 (fun j _ hj=>by have:=zsp hp hw (i:=j) (by omega); omega);have:=hw.n;unfold zbq;omega
theorem zkr:Rising (zf8 p way):=by
 intro i j h hj;unfold zf8 at *
 rw [zdp] at hj;rw [ziL 0 (by omega),ziL 0 hj];exact zls hp hw (by omega) (by omega)
theorem zmu {i:Nat} (hi:i<way.length):(1≤zkL p way i∧zkL p way i≤50000)∧(-120≤zgX p way i∧zgX p way i≤120)∧idx p.2.1 (way.getD i M0).1=some (zht p way i):=by
 have hm:=hw.m i hi;have h1:=hp.rail hm;unfold zh8 zmo at h1;simp only [Bool.and_eq_true,zD] at h1;obtain ⟨⟨_,_,_,h2,h3⟩,_⟩:=h1;refine ⟨h2, ?_,za1 hm.1 hm.2⟩;unfold zgX zht;split<;>omega
end
def ixF (f:Nat->Bool):Nat->Nat->Nat
 | 0,i=>i
 | k+1,i=>if f i then i else ixF f k (i+1)
theorem zvI {f:Nat->Bool}:∀ {k i r:Nat},i≤r->r≤i+k->(∀ j,i≤j->j<r->f j=false)->(r<i+k->f r=true)->ixF f k i=r
 | 0,i,r,h1,h2,_,_=>by unfold ixF; omega
 | k+1,i,r,h1,h2,h3,h4=>by
  unfold ixF;by_cases e:i=r
  ·subst e;rw [if_pos (h4 (by omega))]
  ·rw [if_neg (by rw [h3 i (Nat.le_refl i) (by omega)]; simp)];exact zvI (by omega) (by omega) (fun j h5 h6=>h3 j (by omega) h6) (fun h5=>h4 (by omega))
def zyZ (p:Plan) (way:List zG) (f:Int):Nat:=ixF (fun i=>decide (f<zbq p way (i+1))) (way.length-1) 0
def ze6 (p:Plan) (way:List zG) (f:Int):Int:=zgX p way (zyZ p way f)
theorem zsq {p:Plan} {way:List zG} (h:1≤way.length) (f:Int):zyZ p way f<way.length:=by
 have key:∀ (g:Nat->Bool) (k i:Nat),ixF g k i≤i+k:=by
  intro g k;induction k with
  | zero=>intro i; exact Nat.le_refl _
  | succ k ih=>
   intro i;unfold ixF;split
   ·omega
   ·have:=ih (i+1); omega
 have:=key (fun i=>decide (f<zbq p way (i+1))) (way.length-1) 0;unfold zyZ;omega
def zjs (p:Plan) (way:List zG) (t:Train) (st:Int) (stops:List Int):zaB:=((t,st,()),way,zf8 p way,znH p way,znI p way,stops,())
section
variable {p:Plan} {way:List zG} {t:Train} {st:Int} {stops:List Int} {x:zb} (hp:zib p) (hw:zhI p way) (ht:zkz t) (hx:zpt t x)
include hp hw ht hx
theorem znK:0≤zA t x∧zA t x≤4000000000000000000:=by
 have hm:=ht.m;have h:=hx.w;unfold zA;have h1:0≤x.2.1/(10*t.1):=Int.ediv_nonneg h.1 (by omega);have h2:x.2.1/(10*t.1)≤x.2.1:=Int.ediv_le_self _ h.1;omega
theorem zuU:zaO (zjs p way t st stops) x=some (ze6 p way (zA t x)):=by
 have hn:=hw.n;have hpl:=znK hp hw ht hx;unfold zaO;show Zb (zW (t,st,()) x) _=_;rw [(zgT ht hx st).1,Zs];have e1:x.2.1/(10*t.1)=zA t x:=rfl;rw [e1,zd (n:=zA t x+1) (by omega) (by omega)];show Zb (zH (zf8 p way) (zA t x+1)) _=_;have hel:(zf8 p way).length=way.length:=by unfold zf8; rw [zdp]
 obtain ⟨i,b,h1,h2,h3,h4⟩:=bsearch (zkr hp hw) (by omega) (zA t x+1);rw [h1,Zs];show Zb (idx (znI p way) (min (i:Int) (w64 (zn (znI p way)-1)))) _=_;have hsl:(znI p way).length=way.length:=by unfold znI; rw [zdp]
 rw [zm,hsl,zd (by omega) (by omega)];have hge:∀ j,j<way.length->(zf8 p way).getD j 0=zbq p way (j+1):=fun j hj=>by unfold zf8; rw [ziL 0 hj]
 have hix:zyZ p way (zA t x)=min i (way.length-1):=by
  unfold zyZ;refine zvI (by omega) (by omega) (fun j _ hj=>?_) (fun hlt=>?_)
  ·have:=h3 j (by omega);rw [hge j (by omega)] at this;exact decide_eq_false (by omega)
  ·have:=h4 (min i (way.length-1)) (by omega) (by omega);rw [hge _ (by omega)] at this;exact decide_eq_true (by omega)
 have hmin:min (i:Int) ((way.length:Int)-1)=((min i (way.length-1):Nat):Int):=by omega
 rw [hmin,zp 0 (by omega),Zs,← hix];unfold znI ze6;rw [ziL 0 (zsq hn.1 _)]
theorem zhh (f:Int):-120≤ze6 p way f∧ze6 p way f≤120:=(zmu hp hw (zsq hw.n.1 f)).2.1
end
end Go.Ai.Sx

/- Motion: a run's limit,and the reference's slope and limit. -/
namespace Go.Ai.Sx
open Option renaming bind->Zb,bind_some->Zs
def znL (g:Nat->Bool) (v:Nat->Int):Nat->Nat->Int->Int
 | 0,_,b=>b
 | k+1,i,b=>znL g v k (i+1) (if g i then min b (v i) else b)
theorem zjt (g:Nat->Bool) (v:Nat->Int) (l:Nat):∀ (k i:Nat) (b:Int),znL g v (k+l) i b=znL g v l (i+k) (znL g v k i b)
 | 0,i,b=>by rw [Nat.zero_add]; rfl
 | k+1,i,b=>by
  rw [show k+1+l=(k+l)+1 by omega,znL,zjt g v l k (i+1),znL,show i+1+k=i+(k+1) by omega]
theorem zmv {g:Nat->Bool} {v:Nat->Int}:∀ (k i:Nat) (b:Int),(∀ j,i≤j->j<i+k->g j=false)->znL g v k i b=b
 | 0,_,_,_=>rfl
 | k+1,i,b,h=>by
  rw [znL,h i (Nat.le_refl i) (by omega)];exact zmv k (i+1) b fun j h1 h2=>h j (by omega) (by omega)
def ovB (p:Plan) (way:List zG) (L f:Int) (i:Nat):Bool:=decide (f-L<zbq p way (i+1))&&(decide (zbq p way i<f)||decide (i=0))
def zmI (p:Plan) (way:List zG) (t:Train) (f:Int):Int:=znL (ovB p way t.2.1 f) (zkL p way) way.length 0 t.2.2.1
section
variable {p:Plan} {way:List zG} {t:Train} {st:Int} {stops:List Int} {x:zb} (hp:zib p) (hw:zhI p way) (ht:zkz t)
include hp hw ht
theorem zuV {i j:Nat} (h:i≤j) (hj:j≤way.length):zbq p way i≤zbq p way j:=by
 by_cases e:i=j
 ·subst e; omega
 ·have:=zls hp hw (i:=i) (j:=j) (by omega) hj; omega
theorem zuW (hx:zpt t x):zcw (zjs p way t st stops) x=some (zmI p way t (zA t x)):=by
  have hn:=hw.n;have hl:=ht.len;have hpl:=znK hp hw ht hx;unfold zcw;show Zb (zW (t,st,()) x) _=_;rw [(zgT ht hx st).1,Zs];have e1:x.2.1/(10*t.1)=zA t x:=rfl;rw [e1];show Zb (zH (zf8 p way) (w64 (w64 (zA t x-t.2.1)+1))) _=_;rw [zd (n:=zA t x-t.2.1) (by omega) (by omega),zd (n:=zA t x-t.2.1+1) (by omega) (by omega)];have hel:(zf8 p way).length=way.length:=by unfold zf8; rw [zdp]
  have hll:(znH p way).length=way.length:=by unfold znH; rw [zdp]
  have hge:∀ j,j<way.length->(zf8 p way).getD j 0=zbq p way (j+1):=fun j hj=>by unfold zf8; rw [ziL 0 hj]
  have hgl:∀ j,j<way.length->(znH p way).getD j 0=zkL p way j:=fun j hj=>by unfold znH; rw [ziL 0 hj]
  obtain ⟨i0,b,h1,h2,h3,h4⟩:=bsearch (zkr hp hw) (by omega) (zA t x-t.2.1+1);rw [h1,Zs];have key:∀ (k i:Nat) (v:Int),i+k=way.length->i0≤i->(i=i0∨zbq p way i<zA t x) ->
      Lp (fun s8:Int×Int=>
cond (decide (s8.2<(zn (zf8 p way)))) (Zb (idx (znH p way) s8.2) fun x11=>
Zb (idx (zf8 p way) s8.2) fun x12=>
cond (decide (x12≥zA t x)) (some (.inr (min s8.1 x11))) (some (.inl ((min s8.1 x11),(w64 (s8.2+1)))))) (some (.inr s8.1))) k (v,(i:Int)) (znL (ovB p way t.2.1 (zA t x)) (zkL p way) k i v):=by
    intro k;induction k with
    | zero=>
      intro i v hi _ _;refine Lp.done ?_;have:i=(zf8 p way).length:=by omega
      subst this;simp only [zO,cond_false];rfl
    | succ k ih=>
      intro i v hi hle hor;have hil:i<way.length:=by omega
      have hov:ovB p way t.2.1 (zA t x) i=true:=by
        unfold ovB;have h5:=h4 i hle (by omega);rw [hge i hil] at h5;rw [decide_eq_true (by omega)];have h6:i=0∨zbq p way i<zA t x:=by
          rcases hor with rfl | h
          · by_cases e:i=0
            · exact .inl e
            · right;have h7:=h3 (i-1) (by omega);rw [hge (i-1) (by omega),show i-1+1=i by omega] at h7;omega
          · exact .inr h
        simp only [Bool.true_and,Bool.or_eq_true,decide_eq_true_eq];omega
      rw [znL,if_pos hov];by_cases hc:zbq p way (i+1)≥zA t x
      · rw [zmv k (i+1) _ (fun j h5 h6=>by
          have h7:=zuV hp hw ht (i:=i+1) (j:=j) h5 (by omega);unfold ovB;rw [decide_eq_false (show ¬ zbq p way j<zA t x by omega),decide_eq_false (show ¬ j=0 by omega)];simp)]
        refine Lp.done ?_;simp only [zN (show i<(zf8 p way).length by omega),cond_true];rw [zp 0 (by omega),Zs,zp 0 (by omega),Zs,hge i hil,hgl i hil,decide_eq_true hc,cond_true]
      · refine Lp.step ?_ (ih (i+1) _ (by omega) (by omega) (.inr (by omega)));simp only [zN (show i<(zf8 p way).length by omega),cond_true];rw [zp 0 (by omega),Zs,zp 0 (by omega),Zs,hge i hil,hgl i hil,decide_eq_false hc,cond_false,zx (by omega)]
  have hL:=key (way.length-i0) i0 t.2.2.1 (by omega) (Nat.le_refl _) (.inl rfl);have hR:znL (ovB p way t.2.1 (zA t x)) (zkL p way) (way.length-i0) i0 t.2.2.1=zmI p way t (zA t x):=by
    unfold zmI;have hk:way.length=i0+(way.length-i0):=by omega
    rw [hk,zjt,zmv i0 0 _ (fun j _ h6=>by
      have h7:=h3 j (by omega);rw [hge j (by omega)] at h7;unfold ovB;rw [decide_eq_false (by omega)];rfl),Nat.zero_add,← hk]
  rw [hR] at hL;have hB:=hL.big (by simp only [big]; omega);exact congrArg (fun o=>Zb o fun t14=>some t14) hB
theorem zf9 {stop:Int} {f:Int} (hf:0≤f∧f≤4000000000000000000):za6 (p,way,t,st,stop,()) f=some (ze6 p way f):=by
  have hn:=hw.n;unfold za6;have key:∀ (k i:Nat),i+k+1=way.length ->
      Lp (fun s30:Int×Int=>
cond (decide (s30.2<(zn way))) (Zb (idx way s30.2) fun x35=>
Zb (zaH p x35.1) fun y36=>
cond (decide (f<(w64 (s30.1+y36)))) (Zb (idx way s30.2) fun x40=>
cond (x40.2.1) (Zb (idx way s30.2) fun x44=>
Zb (idx p.2.1 x44.1) fun x45=>
some (.inr (.inr (w64 (0-x45.2.2.2.2.1))))) (Zb (idx way s30.2) fun x48=>
Zb (idx p.2.1 x48.1) fun x49=>
some (.inr (.inr x49.2.2.2.2.1)))) (cond (s30.2==(w64 ((zn way)-1))) (Zb (idx way s30.2) fun x51=>
cond (x51.2.1) (Zb (idx way s30.2) fun x55=>
Zb (idx p.2.1 x55.1) fun x56=>
some (.inr (.inr (w64 (0-x56.2.2.2.2.1))))) (Zb (idx way s30.2) fun x59=>
Zb (idx p.2.1 x59.1) fun x60=>
some (.inr (.inr x60.2.2.2.2.1)))) (some (.inl ((w64 (s30.1+y36)),(w64 (s30.2+1))))))) (some (.inr (.inl ())))) k (zbq p way i,(i:Int)) (.inr (zgX p way (ixF (fun i=>decide (f<zbq p way (i+1))) k i)):Unit⊕Int):=by
    intro k;induction k with
    | zero=>
      intro i hi;have hil:i<way.length:=by omega
      obtain ⟨_,hs,hr⟩:=zmu hp hw hil;refine Lp.done ?_;simp only [zN hil,cond_true];have hlast:((i:Int)==w64 (zn way-1))=true:=by
        rw [zm,zd (by omega) (by omega)]; simp; omega
      rw [zp M0 hil,Zs,ziK hp (hw.m i hil),Zs];simp only [Zs,hr,hlast,cond_true];have hv:(cond (way.getD i M0).2.1 (some (Sum.inr (Sum.inr (w64 (0-(zht p way i).2.2.2.2.1)))):Option ((Int×Int)⊕(Unit⊕Int))) (some (Sum.inr (Sum.inr (zht p way i).2.2.2.2.1))))=some (Sum.inr (Sum.inr (zgX p way i))):=by
        unfold zgX at *
        cases h:(way.getD i M0).2.1 with
        | true=>
          rw [h] at hs;simp only [if_true] at hs;simp only [cond_true,if_true];rw [zd (by omega) (by omega),Int.zero_sub]
        | false=>rfl
      rw [hv];cases decide (f<w64 (zbq p way i+zhs p (way.getD i M0).1))<;>rfl
    | succ k ih=>
      intro i hi;have hil:i<way.length:=by omega
      obtain ⟨_,hs,hr⟩:=zmu hp hw hil;have hb:=zhg hp hw (i:=i) (by omega);have hb1:=zhg hp hw (i:=i+1) (by omega);have hsx:=zhf p way i;have hml:mvl p way i=zhs p (way.getD i M0).1:=rfl;have hlast:((i:Int)==w64 (zn way-1))=false:=by
        rw [zm,zd (by omega) (by omega)]; simp; omega
      have hwe:w64 (zbq p way i+zhs p (way.getD i M0).1)=zbq p way (i+1):=by
        rw [← hml,← hsx,zd (by omega) (by omega)]
      unfold ixF;by_cases hc:f<zbq p way (i+1)
      · rw [if_pos (decide_eq_true hc)];refine Lp.done ?_;simp only [zN hil,cond_true];rw [zp M0 hil,Zs,ziK hp (hw.m i hil),Zs];simp only [Zs,hr,hwe,decide_eq_true hc,cond_true];unfold zgX at *
        cases h:(way.getD i M0).2.1 with
        | true=>
          rw [h] at hs;simp only [if_true] at hs;simp only [cond_true,if_true];rw [zd (by omega) (by omega),Int.zero_sub]
        | false=>rfl
      · rw [if_neg (by rw [decide_eq_true_eq]; exact hc)];refine Lp.step ?_ (ih (i+1) (by omega));simp only [zN hil,cond_true];rw [zp M0 hil,Zs,ziK hp (hw.m i hil),Zs];simp only [hlast,hwe,decide_eq_false hc,cond_false,zx (show i<9223372036854775807 by omega)]
  have hL:=(key (way.length-1) 0 (by omega)).big (by simp only [big]; omega);have h0:zbq p way 0=0:=rfl;rw [h0,show ((0:Nat):Int)=0 from rfl] at hL;exact congrArg (fun o=>Zb o fun t61:Unit⊕Int=>alt (fun _=>some 0) (fun b64=>some b64) t61) hL
end
end Go.Ai.Sx

/- Motion: the reference's limit over the parts that a train covers. -/
namespace Go.Ai.Sx
open Option renaming bind->Zb,bind_some->Zs
section
variable {p:Plan} {way:List zG} {t:Train} {st:Int} {stops:List Int} {x:zb} (hp:zib p) (hw:zhI p way) (ht:zkz t)
include hp hw ht
def zoO (p:Plan) (way:List zG) (t:Train) (f:Int) (k:Nat) (C:List Cover):Prop:=C.length≤k∧(∀ c∈C,0≤c.1∧c.1<(p.2.1.length:Int))∧∀ b:Int,C.foldl (fun b c=>min b (rl0 p c.1).2.2.2.1) b=znL (ovB p way t.2.1 f) (zkL p way) k 0 b
omit hp hw ht in
theorem zuX {f:Int} {k:Nat} {C:List Cover} (h:zoO p way t f k C) (hg:ovB p way t.2.1 f k=false):zoO p way t f (k+1) C:=by
 obtain ⟨h1,h2,h3⟩:=h;refine ⟨by omega,h2,fun b=>?_⟩;rw [h3,zjt _ _ 1 k 0,znL,znL,Nat.zero_add,hg];rfl
omit hp ht in
theorem zsr {f:Int} {k:Nat} {C:List Cover} (h:zoO p way t f k C) (hk:k<way.length) (hg:ovB p way t.2.1 f k=true) (a b:Int):zoO p way t f (k+1) (C++[((way.getD k M0).1,a,b,())]):=by
 obtain ⟨h1,h2,h3⟩:=h;refine ⟨by simp; omega,fun c hc=>?_,fun b=>?_⟩
 ·rw [List.mem_append,List.mem_singleton] at hc;rcases hc with hc | rfl
  ·exact h2 c hc
  ·exact hw.m k hk
 rw [List.foldl_append,h3,zjt _ _ 1 k 0,znL,znL,Nat.zero_add,if_pos hg];rfl
theorem zss {f:Int} (hf:1≤f∧f≤4000000000000000000):∃ C,zdN p way f t.2.1=some C∧zoO p way t f way.length C:=by
  have hn:=hw.n;have hl:=ht.len;unfold zdN;have hT:=Tot.iter (σ:=(List Cover×Int×Int)) (τ:=List Cover) (f:=fun s15=>
cond (decide (s15.2.2<(zn way))) (Zb (idx way s15.2.2) fun x20=>
Zb (zaH p x20.1) fun y21=>
cond (decide ((w64 ((max (w64 (f-t.2.1)) s15.2.1)-s15.2.1))≥(w64 ((min f (w64 (s15.2.1+y21)))-s15.2.1)))) (some (.inl (s15.1,(w64 (s15.2.1+y21)),(w64 (s15.2.2+1))))) (Zb (idx way s15.2.2) fun x23=>
cond (x23.2.1) (Zb (idx way s15.2.2) fun x25=>
Zb (zdQ 24 s15.1 ([((x25.1,(w64 (y21-(w64 ((min f (w64 (s15.2.1+y21)))-s15.2.1)))),(w64 (y21-(w64 ((max (w64 (f-t.2.1)) s15.2.1)-s15.2.1)))),()):Cover)])) fun x26=>
some (.inl (x26,(w64 (s15.2.1+y21)),(w64 (s15.2.2+1))))) (Zb (idx way s15.2.2) fun x28=>
Zb (zdQ 24 s15.1 ([((x28.1,(w64 ((max (w64 (f-t.2.1)) s15.2.1)-s15.2.1)),(w64 ((min f (w64 (s15.2.1+y21)))-s15.2.1)),()):Cover)])) fun x29=>
some (.inl (x29,(w64 (s15.2.1+y21)),(w64 (s15.2.2+1))))))) (some (.inr s15.1)))
    (fun s=>∃ (i:Nat) (C:List Cover),s=(C,zbq p way i,(i:Int))∧i≤way.length∧zoO p way t f i C) (fun C=>zoO p way t f way.length C) (fun s=>way.length-s.2.2.toNat) (n:=big) (s:=([],0,0)) ⟨0,[],rfl,by omega,by simp,by simp,fun b=>rfl⟩ (by simp only [big]; omega) (by
      rintro s ⟨i,C,rfl,hi,hC⟩
      simp only [];by_cases hil:i<way.length
      · have hb:=zhg hp hw (i:=i) (by omega);have hb1:=zhg hp hw (i:=i+1) (by omega);have hsx:=zhf p way i;have hml:mvl p way i=zhs p (way.getD i M0).1:=rfl;have hmb:=zsp hp hw hil;have hwe:w64 (zbq p way i+zhs p (way.getD i M0).1)=zbq p way (i+1):=by
          rw [← hml,← hsx,zd (by omega) (by omega)]
        rw [zN hil,cond_true,zp M0 hil,Zs,ziK hp (hw.m i hil),Zs,hwe];rw [zd (n:=f-t.2.1) (by omega) (by omega),zd (n:=max (f-t.2.1) (zbq p way i)-zbq p way i) (by omega) (by omega),zd (n:=min f (zbq p way (i+1))-zbq p way i) (by omega) (by omega)];have hov:ovB p way t.2.1 f i=!decide (max (f-t.2.1) (zbq p way i)-zbq p way i≥min f (zbq p way (i+1))-zbq p way i):=by
          unfold ovB;have h0:i=0->zbq p way i=0:=fun h=>by subst h; rfl
          by_cases e:max (f-t.2.1) (zbq p way i)-zbq p way i≥min f (zbq p way (i+1))-zbq p way i
          · rw [decide_eq_true e];by_cases e1:f-t.2.1<zbq p way (i+1)
            · rw [decide_eq_false (show ¬ zbq p way i<f by omega),decide_eq_false (show ¬ i=0 by omega)]; simp
            · rw [decide_eq_false e1]; rfl
          · rw [decide_eq_false e,decide_eq_true (show f-t.2.1<zbq p way (i+1) by omega),decide_eq_true (show zbq p way i<f by omega)]; rfl
        by_cases e:max (f-t.2.1) (zbq p way i)-zbq p way i≥min f (zbq p way (i+1))-zbq p way i
        · rw [decide_eq_true e] at hov ⊢;rw [cond_true,zx (by omega)];exact Tot.some ⟨⟨i+1,C,rfl,by omega,zuX hC hov⟩,by simp only [Int.toNat_natCast]; omega⟩
        · rw [decide_eq_false e] at hov ⊢;have hcl:=hC.1;rw [cond_false,Zs];have happ:∀ a b:Int,zdQ 24 C [((way.getD i M0).1,a,b,())]=some (C++[((way.getD i M0).1,a,b,())]):=fun a b=>za5 (by simp; omega);simp only [Zs,happ,zx (show i<9223372036854775807 by omega)];cases (way.getD i M0).2.1 with
          | true=>exact Tot.some ⟨⟨i+1,_,rfl,by omega,zsr hw hC hil hov _ _⟩,by simp only [Int.toNat_natCast]; omega⟩
          | false=>exact Tot.some ⟨⟨i+1,_,rfl,by omega,zsr hw hC hil hov _ _⟩,by simp only [Int.toNat_natCast]; omega⟩
      · have:i=way.length:=by omega
        subst this;rw [zO,cond_false];exact Tot.some hC)
  obtain ⟨C,h1,h2⟩:=hT;exact ⟨C,by rw [h1]; rfl,h2⟩
theorem zfE {f:Int} (hf:1≤f∧f≤4000000000000000000):zdz p way t f=some (zmI p way t f):=by
  have hn:=hw.n;obtain ⟨C,h1,h2,h3,h4⟩:=zss hp hw ht hf;unfold zdz;rw [h1,Zs];have hL:=zcR (f:=fun s8:Int×Int=>
cond (decide (s8.2<(zn C))) (Zb (idx C s8.2) fun x13=>
Zb (idx p.2.1 x13.1) fun x14=>
some (.inl ((min s8.1 x14.2.2.2.1),(w64 (s8.2+1))))) (some (.inr s8.1))) C (fun i b=>(b,(i:Int))) (fun _ b c=>(.inl (min b (rl0 p c.1).2.2.2.1):Int⊕Int)) (fun b=>b) (fun _ _=>True) t.2.2.1 (s0:=(t.2.2.1,0)) rfl (by omega) trivial (fun i h b _=>by
      refine ⟨?_,fun _ _=>trivial⟩;simp only [];rw [zN h,cond_true,zeD,List.getElem?_eq_getElem h,Zs];have hc:=h3 C[i] (List.getElem_mem h);have hr:idx p.2.1 C[i].1=some (rl0 p C[i].1):=za1 hc.1 hc.2;rw [hr,Zs,zx (by omega)]) (fun b _=>by simp only [zO,cond_false])
  rw [hL,zfm,h4];rfl
end
end Go.Ai.Sx

/- Motion: what is safe. -/
namespace Go.Ai.Sx
open Option renaming bind->Zb,bind_some->Zs
section
variable (p:Plan) (way:List zG) (t:Train) (st stop:Int)
def slS (y:zb):Int:=ze6 p way (zA t y)
def zga (x:zb):Bool:=decide (zA t x≤stop)&&decide (x.1/t.1≤zmI p way t (zA t x))
def nxS (x:zb):zbg×Bool:=zel t st x (-4) (slS p way t x)
def zqx:Nat->zb->Bool
 | 0,x=>x.1==0
 | n+1,x=>x.1==0||((nxS p way t st x).2&&(zga p way t stop (nxS p way t st x).1.1&&zqx n (nxS p way t st x).1.1))
def zmw (x:zb):Bool:=zga p way t stop x&&zqx p way t st stop 36000 x
end
section
variable {p:Plan} {way:List zG} {t:Train} {st:Int} {stops:List Int} {x:zb} (hp:zib p) (hw:zhI p way) (ht:zkz t) (hst:0≤st∧st<t.2.2.2.2.2.2.2.2.2.1.length)
include hp hw ht hst
theorem zst (hx:zpt t x) (stop:Int):zbG (zjs p way t st stops) x stop=some (zga p way t stop x):=by
 have hf:zoH t st 0 0:=⟨hst,by omega,by omega⟩;unfold zbG;show (Zb (Zb (zW (t,st,()) x) fun y10=>cond (decide (y10≤stop)) (Zb (zbn (t,st,()) x) _) _) _)=_;rw [(zgT ht hx st).1,Zs,(ziG ht hf hx).1,Zs,zuW hp hw ht hx,Zs];unfold zga zA;cases decide (x.2.1/(10*t.1)≤stop)<;>rfl
theorem zxy (hx:0≤x.1∧x.1≤25000*t.1) (hwx:0≤x.2.1∧x.2.1≤1000000000000000000) (stop:Int):zce (zjs p way t st stops) x stop=some (zmw p way t st stop x):=by
  unfold zce;rw [zst hp hw ht hst ⟨hx,hwx.1,by omega⟩ stop,Zs];unfold zmw;cases hfi:zga p way t stop x with
  | false=>rfl
  | true=>
    have hm:zb6 (zjs p way t st stops).1 x (fun y=>zaO (zjs p way t st stops) y)=some (x,(t,st,()),fun y=>zaO (zjs p way t st stops) y):=rfl;simp only [Bool.not_true,cond_false,hm,Zs,Bool.true_and];have hS:=zoI (σ:=Int×Int) (τ:=Int×Int) (t:=t) (st:=st) (sl:=slS p way t) (f:=fun y=>zaO (zjs p way t st stops) y)
      (step:=fun s16 x9=>Zb (zbG (zjs p way t st stops) x9 stop) fun y19=>
cond (!y19) (some (.inr (s16.1,s16.2))) (some (.inl (x9.1,x9.2.1))))
      (g:=fun s y=>if zga p way t stop y then .inl (y.1,y.2.1) else .inr (s.1,s.2)) (W:=4000000000000000000) ht hst (by omega)
      (fun y h1 h2=>⟨zuU hp hw ht ⟨h1,h2⟩,zhh hp hw ht ⟨h1,h2⟩ _⟩)
      (fun s y h1 h2=>by
        rw [zst hp hw ht hst ⟨h1,h2⟩ stop,Zs];cases zga p way t stop y<;>rfl) (x.1,x.2.1) x hx ⟨hwx.1,by omega⟩
    obtain ⟨z,hz⟩:=hS;rw [hz,Zs];have key:∀ (n:Nat) (x:zb),(alt (fun b23:Int×Int=>some (b23.1==0)) (fun _:Int×Int=>some false) (zmh (fun (s:Int×Int) (y:zb)=>if zga p way t stop y then .inl (y.1,y.2.1) else .inr (s.1,s.2)) (x.1,x.2.1) (brk t st (slS p way t) n x)):Option Bool)=some (zqx p way t st stop n x):=by
      intro n;induction n with
      | zero=>intro x; rfl
      | succ n ih=>
        intro x;unfold brk zqx;by_cases h0:x.1=0
        · rw [if_pos h0,show (x.1==0)=true by simpa using h0];simp only [zmh,zbu,h0]; rfl
        · rw [if_neg h0,show (x.1==0)=false by simpa using h0];show alt _ _ (zmh _ _ (if (nxS p way t st x).2=true then (nxS p way t st x).1.1::brk t st (slS p way t) n (nxS p way t st x).1.1 else []))=_;cases hok:(nxS p way t st x).2 with
          | false=>
            simp only [Bool.false_eq_true,if_false,zmh,zbu,Bool.false_and,Bool.or_false];rw [show (x.1==0)=false by simpa using h0]
          | true=>
            simp only [if_true,zmh,Bool.true_and,Bool.false_or];cases hfy:zga p way t stop (nxS p way t st x).1.1 with
            | false=>rfl
            | true=>
              simp only [if_true,Bool.true_and];exact ih _
    exact key 36000 x
theorem zuY (hx:0≤x.1∧x.1≤25000*t.1) (hwx:10*t.1≤x.2.1∧x.2.1≤1000000000000000000) (stop:Int):zd1 (p,way,t,st,stop,()) x=some (zmw p way t st stop x):=by
  have hm:=ht.m;unfold zd1;have key:∀ (n k:Nat) (v w:Int),k+n=36000->0≤v∧v≤25000*t.1->10*t.1≤w∧w+2000000000*n≤2000000000000000000->∃ T:Bool×Int×Int,T.1=(zga p way t stop (v,w,())&&zqx p way t st stop n (v,w,()))∧Lp (fun s54:Int×Int×Int=>
Zb (zP t (s54.2.1,s54.2.2,())) fun y66=>
cond (decide (y66>stop)) (some (.inr (false,s54.2.1,s54.2.2))) (Zb (zcb .i64 s54.2.1 t.1) fun x69=>
Zb (zP t (s54.2.1,s54.2.2,())) fun y70=>
Zb (zdz p way t y70) fun y71=>
cond (decide (x69>y71)) (some (.inr (false,s54.2.1,s54.2.2))) (cond (s54.2.1==0) (some (.inr (true,s54.2.1,s54.2.2))) (cond (s54.1==36000) (some (.inr (false,s54.2.1,s54.2.2))) (Zb (zP t (s54.2.1,s54.2.2,())) fun y78=>
Zb (za6 (p,way,t,st,stop,()) y78) fun y79=>
Zb (zaJ t (s54.2.1,s54.2.2,()) (-4) y79 st) fun y80=>
cond (!y80.2.2) (some (.inr (false,y80.1.1,y80.1.2.1))) (some (.inl ((w64 (s54.1+1)),y80.1.1,y80.1.2.1)))))))) n ((k:Int),v,w) T:=by
    intro n;induction n with
    | zero=>
      intro k v w hk hv hww;have:k=36000:=by omega
      subst this;have hso:zpt t (v,w,()):=⟨hv,⟨by show 0≤w; omega,by show w≤_; omega⟩⟩;have hf0:zoH t st 0 0:=⟨hst,by omega,by omega⟩;have hpl:1≤zA t (v,w,())∧zA t (v,w,())≤4000000000000000000:=by
        refine ⟨?_,(znK hp hw ht hso).2⟩;show 1≤w/(10*t.1);exact (Int.le_ediv_iff_mul_le (by omega)).2 (by omega)
      have e0:zP t (v,w,())=some (zA t (v,w,())):=(zgT ht hso st).2;have e1:zcb .i64 v t.1=some (v/t.1):=(ziG ht hf0 hso).2;by_cases c1:zA t (v,w,())≤stop
      · by_cases c2:v/t.1≤zmI p way t (zA t (v,w,()))
        · have hfb:zga p way t stop (v,w,())=true:=by
            unfold zga;rw [decide_eq_true c1,decide_eq_true (show (v,w,()).1/t.1≤zmI p way t (zA t (v,w,())) from c2)]; rfl
          rw [hfb];by_cases h0:v=0
          · subst h0;refine ⟨(true,0,w),rfl,Lp.done ?_⟩;simp only [e0,Zs,e1,zfE hp hw ht hpl,decide_eq_false (show ¬ zA t (0,w,())>stop by omega),decide_eq_false (show ¬ (0:Int)/t.1>zmI p way t (zA t (0,w,())) by omega),cond_false];rfl
          · have hb:(v==0)=false:=by simpa using h0
            refine ⟨(false,v,w), ?_,Lp.done ?_⟩
            · show false=(true&&(v==0)); rw [hb]; rfl
            simp only [e0,Zs,e1,zfE hp hw ht hpl,decide_eq_false (show ¬ zA t (v,w,())>stop by omega),decide_eq_false (show ¬ v/t.1>zmI p way t (zA t (v,w,())) by omega),cond_false,hb];rfl
        · refine ⟨(false,v,w), ?_,Lp.done ?_⟩
          · unfold zga;rw [decide_eq_false (show ¬ (v,w,()).1/t.1≤zmI p way t (zA t (v,w,())) from c2),Bool.and_false]; rfl
          simp only [e0,Zs,e1,zfE hp hw ht hpl,decide_eq_false (show ¬ zA t (v,w,())>stop by omega),decide_eq_true (show v/t.1>zmI p way t (zA t (v,w,())) by omega),cond_false,cond_true]
      · refine ⟨(false,v,w), ?_,Lp.done ?_⟩
        · unfold zga;rw [decide_eq_false c1]; rfl
        simp only [e0,Zs,decide_eq_true (show zA t (v,w,())>stop by omega),cond_true]
    | succ n ih=>
      intro k v w hk hv hww;have hk0:((k:Int)==36000)=false:=by simp; omega
      have hso:zpt t (v,w,()):=⟨hv,⟨by show 0≤w; omega,by show w≤_; omega⟩⟩;have hf0:zoH t st 0 0:=⟨hst,by omega,by omega⟩;have hpl:1≤zA t (v,w,())∧zA t (v,w,())≤4000000000000000000:=by
        refine ⟨?_,(znK hp hw ht hso).2⟩;show 1≤w/(10*t.1);exact (Int.le_ediv_iff_mul_le (by omega)).2 (by omega)
      have e0:zP t (v,w,())=some (zA t (v,w,())):=(zgT ht hso st).2;have e1:zcb .i64 v t.1=some (v/t.1):=(ziG ht hf0 hso).2;by_cases c1:zA t (v,w,())≤stop
      · by_cases c2:v/t.1≤zmI p way t (zA t (v,w,()))
        · have hfb:zga p way t stop (v,w,())=true:=by
            unfold zga;rw [decide_eq_true c1,decide_eq_true (show (v,w,()).1/t.1≤zmI p way t (zA t (v,w,())) from c2)]; rfl
          rw [hfb];unfold zqx;by_cases h0:v=0
          · subst h0;refine ⟨(true,0,w),rfl,Lp.done ?_⟩;simp only [e0,Zs,e1,zfE hp hw ht hpl,decide_eq_false (show ¬ zA t (0,w,())>stop by omega),decide_eq_false (show ¬ (0:Int)/t.1>zmI p way t (zA t (0,w,())) by omega),cond_false];rfl
          · have hb:(v==0)=false:=by simpa using h0
            have hsl:=zhh hp hw ht hso (zA t (v,w,()));have hfin:zoH t st (-4) (ze6 p way (zA t (v,w,()))):=⟨hst,by omega,hsl⟩;have hstep:zaJ t (v,w,()) (-4) (ze6 p way (zA t (v,w,()))) st=some ((nxS p way t st (v,w,())).1.1,(nxS p way t st (v,w,())).1.2.1,(nxS p way t st (v,w,())).2):=zmi ht hfin hso;have hbx:(((v,w,()):zb).1==0)=false:=hb;rw [hbx];cases hok:(nxS p way t st (v,w,())).2 with
            | false=>
              refine ⟨(false,(nxS p way t st (v,w,())).1.1.1,(nxS p way t st (v,w,())).1.1.2.1),rfl,Lp.done ?_⟩;simp only [e0,Zs,e1,zfE hp hw ht hpl,decide_eq_false (show ¬ zA t (v,w,())>stop by omega),decide_eq_false (show ¬ v/t.1>zmI p way t (zA t (v,w,())) by omega),cond_false,hb,hk0,zf9 hp hw ht (show 0≤zA t (v,w,())∧zA t (v,w,())≤4000000000000000000 by omega),hstep,hok,Bool.not_false,cond_true]
            | true=>
              obtain ⟨n1,n2⟩:=zgU ht hfin hv ⟨by show 0≤w; omega,by show w≤_; omega⟩ hok;have n1':0≤(nxS p way t st (v,w,())).1.1.1∧(nxS p way t st (v,w,())).1.1.1≤25000*t.1:=n1;have n2':(nxS p way t st (v,w,())).1.1.2.1=w+(nxS p way t st (v,w,())).1.1.1:=n2;obtain ⟨T,h1,h2⟩:=ih (k+1) (nxS p way t st (v,w,())).1.1.1 (nxS p way t st (v,w,())).1.1.2.1 (by omega) n1' (by omega);refine ⟨T, ?_,Lp.step ?_ h2⟩
              · rw [h1]; rfl
              simp only [e0,Zs,e1,zfE hp hw ht hpl,decide_eq_false (show ¬ zA t (v,w,())>stop by omega),decide_eq_false (show ¬ v/t.1>zmI p way t (zA t (v,w,())) by omega),cond_false,hb,hk0,zf9 hp hw ht (show 0≤zA t (v,w,())∧zA t (v,w,())≤4000000000000000000 by omega),hstep,hok,Bool.not_true];rw [zx (by omega)]
        · refine ⟨(false,v,w), ?_,Lp.done ?_⟩
          · unfold zga;rw [decide_eq_false (show ¬ (v,w,()).1/t.1≤zmI p way t (zA t (v,w,())) from c2),Bool.and_false]; rfl
          simp only [e0,Zs,e1,zfE hp hw ht hpl,decide_eq_false (show ¬ zA t (v,w,())>stop by omega),decide_eq_true (show v/t.1>zmI p way t (zA t (v,w,())) by omega),cond_false,cond_true]
      · refine ⟨(false,v,w), ?_,Lp.done ?_⟩
        · unfold zga;rw [decide_eq_false c1]; rfl
        simp only [e0,Zs,decide_eq_true (show zA t (v,w,())>stop by omega),cond_true]
  obtain ⟨T,h1,h2⟩:=key 36000 0 x.1 x.2.1 (by omega) hx (by omega);rw [show ((0:Nat):Int)=0 from rfl] at h2;have hB:=h2.big (by simp only [big]; omega);have:=congrArg (fun o=>Zb o fun t82:Bool×Int×Int=>some t82.1) hB;exact this.trans (congrArg some h1)
end
end Go.Ai.Sx

/- Motion: the first safe demand. -/
namespace Go.Ai.Sx
open Option renaming bind->Zb,bind_some->Zs
def ztq (ok:Int->Bool):Nat->Int->Option Int
 | 0,_=>none
 | n+1,d=>if ok d then some d else ztq ok n (d-1)
theorem zks {ok:Int->Bool}:∀ {n:Nat} {d e:Int},ztq ok n d=some e->ok e=true∧d-n<e∧e≤d
 | 0,_,_,h=>by cases h
 | n+1,d,e,h=>by
  rw [ztq] at h;split at h
  ·rename_i hk;cases h;exact ⟨hk,by omega,by omega⟩
  ·obtain ⟨h1,h2,h3⟩:=zks h;exact ⟨h1,by omega,by omega⟩
section
variable (p:Plan) (way:List zG) (t:Train) (st stop:Int)
def zdc (x:zb) (d:Int):zbg×Bool:=zel t st x d (slS p way t x)
def okD (x:zb) (d:Int):Bool:=(zdc p way t st x d).2&&zmw p way t st stop (zdc p way t st x d).1.1
def zqy (x:zb):Option Int:=ztq (okD p way t st stop x) 9 4
end
def zAf (s:zbg):Bool×Int×Int×Int×Int×Int×Int×Int×Int×Int×Int:=(true,s.1.1,s.1.2.1,s.2.1.1,s.2.1.2.1,s.2.1.2.2.1,s.2.1.2.2.2.1,s.2.1.2.2.2.2.1,s.2.1.2.2.2.2.2.1,s.2.2.1,s.2.2.2.1)
section
variable {p:Plan} {way:List zG} {t:Train} {st:Int} {stops:List Int} {x:zb} (hp:zib p) (hw:zhI p way) (ht:zkz t) (hst:0≤st∧st<t.2.2.2.2.2.2.2.2.2.1.length)
include hp hw ht hst
theorem znM (hx:0≤x.1∧x.1≤25000*t.1) (hwx:0≤x.2.1∧x.2.1≤500000000000000000) (stop:Int):zaS (zjs p way t st stops) x stop=some (match zqy p way t st stop x with | some d=>((zdc p way t st x d).1,true) | none=>(((0,0,()),(0,0,0,0,0,0,()),0,0,()),false)):=by
  have hm:=ht.m;have hso:zpt t x:=⟨hx,⟨hwx.1,by omega⟩⟩;have hsl:=zhh hp hw ht hso (zA t x);unfold zaS;rw [zuU hp hw ht hso,Zs];have key:∀ (n k:Nat),k+n=9->Lp (fun s26:Bool×Int×Int×Int×Int×Int×Int×Int×Int×Int×Int×Int=>
cond (decide (s26.2.1<9)) (Zb (zaE (zjs p way t st stops).1 x (w64 (4-s26.2.1)) (ze6 p way (zA t x))) fun y31=>
cond (y31.2) (Zb (zce (zjs p way t st stops) y31.1.1 stop) fun y36=>
cond (y36) (some (.inr ((true,y31.1.1.1,y31.1.1.2.1,y31.1.2.1.1,y31.1.2.1.2.1,y31.1.2.1.2.2.1,y31.1.2.1.2.2.2.1,y31.1.2.1.2.2.2.2.1,y31.1.2.1.2.2.2.2.2.1,y31.1.2.2.1,y31.1.2.2.2.1):Bool×Int×Int×Int×Int×Int×Int×Int×Int×Int×Int))) (some (.inl (s26.1,(w64 (s26.2.1+1)),s26.2.2.1,s26.2.2.2.1,s26.2.2.2.2.1,s26.2.2.2.2.2.1,s26.2.2.2.2.2.2.1,s26.2.2.2.2.2.2.2.1,s26.2.2.2.2.2.2.2.2.1,s26.2.2.2.2.2.2.2.2.2.1,s26.2.2.2.2.2.2.2.2.2.2.1,s26.2.2.2.2.2.2.2.2.2.2.2)))) (some (.inl (s26.1,(w64 (s26.2.1+1)),s26.2.2.1,s26.2.2.2.1,s26.2.2.2.2.1,s26.2.2.2.2.2.1,s26.2.2.2.2.2.2.1,s26.2.2.2.2.2.2.2.1,s26.2.2.2.2.2.2.2.2.1,s26.2.2.2.2.2.2.2.2.2.1,s26.2.2.2.2.2.2.2.2.2.2.1,s26.2.2.2.2.2.2.2.2.2.2.2)))) (some (.inr (s26.1,s26.2.2.1,s26.2.2.2.1,s26.2.2.2.2.1,s26.2.2.2.2.2.1,s26.2.2.2.2.2.2.1,s26.2.2.2.2.2.2.2.1,s26.2.2.2.2.2.2.2.2.1,s26.2.2.2.2.2.2.2.2.2.1,s26.2.2.2.2.2.2.2.2.2.2.1,s26.2.2.2.2.2.2.2.2.2.2.2)))) n (false,(k:Int),0,0,0,0,0,0,0,0,0,0) (match ztq (okD p way t st stop x) n (4-k) with | some d=>zAf (zdc p way t st x d).1 | none=>(false,0,0,0,0,0,0,0,0,0,0)):=by
    intro n;induction n with
    | zero=>
      intro k hk;have:k=9:=by omega
      subst this;exact Lp.done rfl
    | succ n ih=>
      intro k hk;have hfin:zoH t st (4-k) (ze6 p way (zA t x)):=⟨hst,by omega,hsl⟩;have hstep:zaE (zjs p way t st stops).1 x (4-(k:Int)) (ze6 p way (zA t x))=some (zdc p way t st x (4-k)):=zpu ht hfin hso;have hnext:Lp _ _ _ _:=ih (k+1) (by omega);rw [show (4-((k+1:Nat):Int))=4-(k:Int)-1 by omega] at hnext;have hok:okD p way t st stop x (4-k)=((zdc p way t st x (4-k)).2&&zmw p way t st stop (zdc p way t st x (4-k)).1.1):=rfl;rw [ztq,hok];cases h1:(zdc p way t st x (4-k)).2 with
      | false=>
        simp only [Bool.false_and,Bool.false_eq_true,if_false];refine Lp.step ?_ hnext;simp only [decide_eq_true (show (k:Int)<9 by omega),cond_true,zd (n:=4-(k:Int)) (by omega) (by omega),hstep,Zs,h1,cond_false];rw [zx (by omega)]
      | true=>
        obtain ⟨n1,n2⟩:=zgU ht hfin hx hso.w h1;have n1':0≤(zdc p way t st x (4-k)).1.1.1∧(zdc p way t st x (4-k)).1.1.1≤25000*t.1:=n1;have n2':(zdc p way t st x (4-k)).1.1.2.1=x.2.1+(zdc p way t st x (4-k)).1.1.1:=n2;have hsafe:=zxy (stops:=stops) hp hw ht hst n1' (by omega) stop;cases h2:zmw p way t st stop (zdc p way t st x (4-k)).1.1 with
        | false=>
          simp only [Bool.and_false,Bool.false_eq_true,if_false];refine Lp.step ?_ hnext;simp only [decide_eq_true (show (k:Int)<9 by omega),cond_true,zd (n:=4-(k:Int)) (by omega) (by omega),hstep,Zs,h1,hsafe,h2,cond_false];rw [zx (by omega)]
        | true=>
          simp only [Bool.and_true,if_true];refine Lp.done ?_;simp only [decide_eq_true (show (k:Int)<9 by omega),cond_true,zd (n:=4-(k:Int)) (by omega) (by omega),hstep,Zs,h1,hsafe,h2];rfl
  have hB:=(key 9 0 rfl).big (by simp only [big]; omega);rw [show ((0:Nat):Int)=0 from rfl] at hB;refine (congrArg (fun o=>Zb o fun t39:Bool×Int×Int×Int×Int×Int×Int×Int×Int×Int×Int=>some ((((t39.2.1,t39.2.2.1,()),(t39.2.2.2.1,t39.2.2.2.2.1,t39.2.2.2.2.2.1,t39.2.2.2.2.2.2.1,t39.2.2.2.2.2.2.2.1,t39.2.2.2.2.2.2.2.2.1,()),t39.2.2.2.2.2.2.2.2.2.1,t39.2.2.2.2.2.2.2.2.2.2,()),t39.1):zbg×Bool)) hB).trans ?_;rw [Zs];unfold zqy;rw [show (4:Int)-0=4 from rfl];cases ztq (okD p way t st stop x) 9 4<;>rfl
theorem znN (hx:0≤x.1∧x.1≤25000*t.1) (hwx:10*t.1≤x.2.1∧x.2.1≤500000000000000000) (stop:Int):zcx (p,way,t,st,stop,()) x=some (match zqy p way t st stop x with | some d=>(d,true) | none=>(0,false)):=by
  have hm:=ht.m;have hso:zpt t x:=⟨hx,⟨by omega,by omega⟩⟩;have hsl:=zhh hp hw ht hso (zA t x);have hpl:=znK hp hw ht hso;unfold zcx;have key:∀ (n:Nat) (d:Int),d+5=n->d≤4->Lp (fun s18:Int=>
cond (decide (s18≥(-4))) (Zb (zP t x) fun y26=>
Zb (za6 (p,way,t,st,stop,()) y26) fun y27=>
Zb (zaJ t x s18 y27 st) fun y28=>
cond (y28.2.2) (Zb (zd1 (p,way,t,st,stop,()) y28.1) fun y34=>
cond (y34) (some (.inr (.inr (s18,true)))) (some (.inl (w64 (s18-1))))) (some (.inl (w64 (s18-1))))) (some (.inr (.inl ())))) n d (match ztq (okD p way t st stop x) n d with | some e=>(.inr (e,true):Unit⊕(Int×Bool)) | none=>.inl ()):=by
    intro n;induction n with
    | zero=>
      intro d hd _;refine Lp.done ?_;rw [decide_eq_false (by omega)]; rfl
    | succ n ih=>
      intro d hd hd4;have hfin:zoH t st d (ze6 p way (zA t x)):=⟨hst,by omega,hsl⟩;have hstep:zaJ t x d (ze6 p way (zA t x)) st=some ((zdc p way t st x d).1.1,(zdc p way t st x d).1.2.1,(zdc p way t st x d).2):=zmi ht hfin hso;have e0:zP t x=some (zA t x):=(zgT ht hso st).2;have hnext:=ih (d-1) (by omega) (by omega);have hok:okD p way t st stop x d=((zdc p way t st x d).2&&zmw p way t st stop (zdc p way t st x d).1.1):=rfl;rw [ztq,hok];cases h1:(zdc p way t st x d).2 with
      | false=>
        simp only [Bool.false_and,Bool.false_eq_true,if_false];refine Lp.step ?_ hnext;simp only [decide_eq_true (show d≥-4 by omega),cond_true,e0,Zs,zf9 hp hw ht hpl,hstep,h1,cond_false,zd (n:=d-1) (by omega) (by omega)]
      | true=>
        obtain ⟨n1,n2⟩:=zgU ht hfin hx hso.w h1;have n1':0≤(zdc p way t st x d).1.1.1∧(zdc p way t st x d).1.1.1≤25000*t.1:=n1;have n2':(zdc p way t st x d).1.1.2.1=x.2.1+(zdc p way t st x d).1.1.1:=n2;have hsafe:=zuY hp hw ht hst n1' (by omega) stop;cases h2:zmw p way t st stop (zdc p way t st x d).1.1 with
        | false=>
          simp only [Bool.and_false,Bool.false_eq_true,if_false];refine Lp.step ?_ hnext;simp only [decide_eq_true (show d≥-4 by omega),cond_true,e0,Zs,zf9 hp hw ht hpl,hstep,h1,hsafe,h2,cond_false,zd (n:=d-1) (by omega) (by omega)]
        | true=>
          simp only [Bool.and_true,if_true];refine Lp.done ?_;simp only [decide_eq_true (show d≥-4 by omega),cond_true,e0,Zs,zf9 hp hw ht hpl,hstep,h1,hsafe,h2]
  have hB:=(key 9 4 rfl (by omega)).big (by simp only [big]; omega);rw [hB,Zs];unfold zqy;cases ztq (okD p way t st stop x) 9 4<;>rfl
end
end Go.Ai.Sx

/- Motion: one leg. -/
namespace Go.Ai.Sx
open Option renaming bind->Zb,bind_some->Zs
def zxz (p_0:zaB) (p_2:Int):(Int×Int×Int×Int×Int×Int×Int×Int×Int×Int×Int×Int×Int×Int×Int×Int×Int×Int×Int×Int×Int×Int×Int×Int×Int)->Option ((Int×Int×Int×Int×Int×Int×Int×Int×Int×Int×Int×Int×Int×Int×Int×Int×Int×Int×Int×Int×Int×Int×Int×Int×Int)⊕(Bool×Int×Int×Int×Int×Int×Int×Int×Int×Int×Int×Int×Int×Int×Int×Int×Int×Int×Int×Int×Int×Int×Int×Int×Int)):=(fun s77=>
Zb (zW p_0.1 (s77.2.2.2.2.2.2.2.2.2.2.2.2.2.2.1,s77.2.2.2.2.2.2.2.2.2.2.2.2.2.2.2.1,())) fun y80=>
cond (s77.2.2.2.2.2.2.2.2.2.2.2.2.2.2.1==0) (Zb (zS (w64 (p_2-y80)) 0 1000) fun y84=>
cond (y84) (some (.inr (true,y80,s77.2.2.2.2.2.2.2.2.2.2.2.2.2.2.1,s77.2.2.2.2.2.2.2.2.2.2.2.2.2.2.2.1,s77.2.1,y80,s77.2.2.2.1,s77.2.2.2.2.1,s77.2.2.2.2.2.1,s77.2.2.2.2.2.2.1,s77.2.2.2.2.2.2.2.1,s77.2.2.2.2.2.2.2.2.1,s77.2.2.2.2.2.2.2.2.2.1,s77.2.2.2.2.2.2.2.2.2.2.1,s77.2.1,s77.2.2.2.1,s77.2.2.2.2.1,s77.2.2.2.2.2.1,s77.2.2.2.2.2.2.1,s77.2.2.2.2.2.2.2.1,s77.2.2.2.2.2.2.2.2.1,s77.2.2.2.2.2.2.2.2.2.1,s77.2.2.2.2.2.2.2.2.2.2.1,s77.2.2.2.2.2.2.2.2.2.2.2.2.2.2.1,s77.2.2.2.2.2.2.2.2.2.2.2.2.2.2.2.1))) (cond (s77.1==36000) (some (.inr (false,s77.2.2.1,s77.2.2.2.2.2.2.2.2.2.2.2.2.2.2.1,s77.2.2.2.2.2.2.2.2.2.2.2.2.2.2.2.1,s77.2.1,s77.2.2.1,s77.2.2.2.1,s77.2.2.2.2.1,s77.2.2.2.2.2.1,s77.2.2.2.2.2.2.1,s77.2.2.2.2.2.2.2.1,s77.2.2.2.2.2.2.2.2.1,s77.2.2.2.2.2.2.2.2.2.1,s77.2.2.2.2.2.2.2.2.2.2.1,s77.2.1,s77.2.2.2.1,s77.2.2.2.2.1,s77.2.2.2.2.2.1,s77.2.2.2.2.2.2.1,s77.2.2.2.2.2.2.2.1,s77.2.2.2.2.2.2.2.2.1,s77.2.2.2.2.2.2.2.2.2.1,s77.2.2.2.2.2.2.2.2.2.2.1,s77.2.2.2.2.2.2.2.2.2.2.2.2.2.2.1,s77.2.2.2.2.2.2.2.2.2.2.2.2.2.2.2.1))) (Zb (zaS p_0 (s77.2.2.2.2.2.2.2.2.2.2.2.2.2.2.1,s77.2.2.2.2.2.2.2.2.2.2.2.2.2.2.2.1,()) p_2) fun y87=>
cond (!y87.2) (some (.inr (false,s77.2.2.1,s77.2.2.2.2.2.2.2.2.2.2.2.2.2.2.1,s77.2.2.2.2.2.2.2.2.2.2.2.2.2.2.2.1,s77.2.1,s77.2.2.1,s77.2.2.2.1,s77.2.2.2.2.1,s77.2.2.2.2.2.1,s77.2.2.2.2.2.2.1,s77.2.2.2.2.2.2.2.1,s77.2.2.2.2.2.2.2.2.1,s77.2.2.2.2.2.2.2.2.2.1,s77.2.2.2.2.2.2.2.2.2.2.1,s77.2.1,s77.2.2.2.1,s77.2.2.2.2.1,s77.2.2.2.2.2.1,s77.2.2.2.2.2.2.1,s77.2.2.2.2.2.2.2.1,s77.2.2.2.2.2.2.2.2.1,s77.2.2.2.2.2.2.2.2.2.1,s77.2.2.2.2.2.2.2.2.2.2.1,s77.2.2.2.2.2.2.2.2.2.2.2.2.2.2.1,s77.2.2.2.2.2.2.2.2.2.2.2.2.2.2.2.1))) (cond (decide (y87.1.1.2.1>10000000000000000)) (some (.inr (false,s77.2.2.1,s77.2.2.2.2.2.2.2.2.2.2.2.2.2.2.1,s77.2.2.2.2.2.2.2.2.2.2.2.2.2.2.2.1,s77.2.1,s77.2.2.1,s77.2.2.2.1,s77.2.2.2.2.1,s77.2.2.2.2.2.1,s77.2.2.2.2.2.2.1,s77.2.2.2.2.2.2.2.1,s77.2.2.2.2.2.2.2.2.1,s77.2.2.2.2.2.2.2.2.2.1,s77.2.2.2.2.2.2.2.2.2.2.1,s77.2.1,s77.2.2.2.1,s77.2.2.2.2.1,s77.2.2.2.2.2.1,s77.2.2.2.2.2.2.1,s77.2.2.2.2.2.2.2.1,s77.2.2.2.2.2.2.2.2.1,s77.2.2.2.2.2.2.2.2.2.1,s77.2.2.2.2.2.2.2.2.2.2.1,s77.2.2.2.2.2.2.2.2.2.2.2.2.2.2.1,s77.2.2.2.2.2.2.2.2.2.2.2.2.2.2.2.1))) (Zb (zcV ([(s77.2.2.2.1,s77.2.2.2.2.1,s77.2.2.2.2.2.1,s77.2.2.2.2.2.2.1,s77.2.2.2.2.2.2.2.1,s77.2.2.2.2.2.2.2.2.1,()),y87.1.2.1])) fun y93=>
some (.inl ((w64 (s77.1+1)),(w64 (s77.2.1+100)),s77.2.2.1,y93.1,y93.2.1,y93.2.2.1,y93.2.2.2.1,y93.2.2.2.2.1,y93.2.2.2.2.2.1,(max s77.2.2.2.2.2.2.2.2.2.1 y87.1.2.2.1),(max s77.2.2.2.2.2.2.2.2.2.2.1 y87.1.2.2.2.1),s77.2.2.2.2.2.2.2.2.2.2.2.1,s77.2.2.2.2.2.2.2.2.2.2.2.2.1,s77.2.2.2.2.2.2.2.2.2.2.2.2.2.1,y87.1.1.1,y87.1.1.2.1,s77.2.2.2.2.2.2.2.2.2.2.2.2.2.2.2.2.1,s77.2.2.2.2.2.2.2.2.2.2.2.2.2.2.2.2.2.1,s77.2.2.2.2.2.2.2.2.2.2.2.2.2.2.2.2.2.2.1,s77.2.2.2.2.2.2.2.2.2.2.2.2.2.2.2.2.2.2.2.1,s77.2.2.2.2.2.2.2.2.2.2.2.2.2.2.2.2.2.2.2.2.1,s77.2.2.2.2.2.2.2.2.2.2.2.2.2.2.2.2.2.2.2.2.2.1,s77.2.2.2.2.2.2.2.2.2.2.2.2.2.2.2.2.2.2.2.2.2.2.1,s77.2.2.2.2.2.2.2.2.2.2.2.2.2.2.2.2.2.2.2.2.2.2.2.1,s77.2.2.2.2.2.2.2.2.2.2.2.2.2.2.2.2.2.2.2.2.2.2.2.2))))))) (cond (s77.1==36000) (some (.inr (false,s77.2.2.1,s77.2.2.2.2.2.2.2.2.2.2.2.2.2.2.1,s77.2.2.2.2.2.2.2.2.2.2.2.2.2.2.2.1,s77.2.1,s77.2.2.1,s77.2.2.2.1,s77.2.2.2.2.1,s77.2.2.2.2.2.1,s77.2.2.2.2.2.2.1,s77.2.2.2.2.2.2.2.1,s77.2.2.2.2.2.2.2.2.1,s77.2.2.2.2.2.2.2.2.2.1,s77.2.2.2.2.2.2.2.2.2.2.1,s77.2.1,s77.2.2.2.1,s77.2.2.2.2.1,s77.2.2.2.2.2.1,s77.2.2.2.2.2.2.1,s77.2.2.2.2.2.2.2.1,s77.2.2.2.2.2.2.2.2.1,s77.2.2.2.2.2.2.2.2.2.1,s77.2.2.2.2.2.2.2.2.2.2.1,s77.2.2.2.2.2.2.2.2.2.2.2.2.2.2.1,s77.2.2.2.2.2.2.2.2.2.2.2.2.2.2.2.1))) (Zb (zaS p_0 (s77.2.2.2.2.2.2.2.2.2.2.2.2.2.2.1,s77.2.2.2.2.2.2.2.2.2.2.2.2.2.2.2.1,()) p_2) fun y96=>
cond (!y96.2) (some (.inr (false,s77.2.2.1,s77.2.2.2.2.2.2.2.2.2.2.2.2.2.2.1,s77.2.2.2.2.2.2.2.2.2.2.2.2.2.2.2.1,s77.2.1,s77.2.2.1,s77.2.2.2.1,s77.2.2.2.2.1,s77.2.2.2.2.2.1,s77.2.2.2.2.2.2.1,s77.2.2.2.2.2.2.2.1,s77.2.2.2.2.2.2.2.2.1,s77.2.2.2.2.2.2.2.2.2.1,s77.2.2.2.2.2.2.2.2.2.2.1,s77.2.1,s77.2.2.2.1,s77.2.2.2.2.1,s77.2.2.2.2.2.1,s77.2.2.2.2.2.2.1,s77.2.2.2.2.2.2.2.1,s77.2.2.2.2.2.2.2.2.1,s77.2.2.2.2.2.2.2.2.2.1,s77.2.2.2.2.2.2.2.2.2.2.1,s77.2.2.2.2.2.2.2.2.2.2.2.2.2.2.1,s77.2.2.2.2.2.2.2.2.2.2.2.2.2.2.2.1))) (cond (decide (y96.1.1.2.1>10000000000000000)) (some (.inr (false,s77.2.2.1,s77.2.2.2.2.2.2.2.2.2.2.2.2.2.2.1,s77.2.2.2.2.2.2.2.2.2.2.2.2.2.2.2.1,s77.2.1,s77.2.2.1,s77.2.2.2.1,s77.2.2.2.2.1,s77.2.2.2.2.2.1,s77.2.2.2.2.2.2.1,s77.2.2.2.2.2.2.2.1,s77.2.2.2.2.2.2.2.2.1,s77.2.2.2.2.2.2.2.2.2.1,s77.2.2.2.2.2.2.2.2.2.2.1,s77.2.1,s77.2.2.2.1,s77.2.2.2.2.1,s77.2.2.2.2.2.1,s77.2.2.2.2.2.2.1,s77.2.2.2.2.2.2.2.1,s77.2.2.2.2.2.2.2.2.1,s77.2.2.2.2.2.2.2.2.2.1,s77.2.2.2.2.2.2.2.2.2.2.1,s77.2.2.2.2.2.2.2.2.2.2.2.2.2.2.1,s77.2.2.2.2.2.2.2.2.2.2.2.2.2.2.2.1))) (Zb (zcV ([(s77.2.2.2.1,s77.2.2.2.2.1,s77.2.2.2.2.2.1,s77.2.2.2.2.2.2.1,s77.2.2.2.2.2.2.2.1,s77.2.2.2.2.2.2.2.2.1,()),y96.1.2.1])) fun y102=>
some (.inl ((w64 (s77.1+1)),(w64 (s77.2.1+100)),s77.2.2.1,y102.1,y102.2.1,y102.2.2.1,y102.2.2.2.1,y102.2.2.2.2.1,y102.2.2.2.2.2.1,(max s77.2.2.2.2.2.2.2.2.2.1 y96.1.2.2.1),(max s77.2.2.2.2.2.2.2.2.2.2.1 y96.1.2.2.2.1),s77.2.2.2.2.2.2.2.2.2.2.2.1,s77.2.2.2.2.2.2.2.2.2.2.2.2.1,s77.2.2.2.2.2.2.2.2.2.2.2.2.2.1,y96.1.1.1,y96.1.1.2.1,s77.2.2.2.2.2.2.2.2.2.2.2.2.2.2.2.2.1,s77.2.2.2.2.2.2.2.2.2.2.2.2.2.2.2.2.2.1,s77.2.2.2.2.2.2.2.2.2.2.2.2.2.2.2.2.2.2.1,s77.2.2.2.2.2.2.2.2.2.2.2.2.2.2.2.2.2.2.2.1,s77.2.2.2.2.2.2.2.2.2.2.2.2.2.2.2.2.2.2.2.2.1,s77.2.2.2.2.2.2.2.2.2.2.2.2.2.2.2.2.2.2.2.2.2.1,s77.2.2.2.2.2.2.2.2.2.2.2.2.2.2.2.2.2.2.2.2.2.2.1,s77.2.2.2.2.2.2.2.2.2.2.2.2.2.2.2.2.2.2.2.2.2.2.2.1,s77.2.2.2.2.2.2.2.2.2.2.2.2.2.2.2.2.2.2.2.2.2.2.2.2)))))))
def zxZ:(Bool×Int×Int×Int×Int×Int×Int×Int×Int×Int×Int×Int×Int×Int×Int×Int×Int×Int×Int×Int×Int×Int×Int×Int×Int)->Option (Leg×zb×Bool):=fun t103=>
some ((t103.2.2.2.2.1,t103.2.2.2.2.2.1,(t103.2.2.2.2.2.2.1,t103.2.2.2.2.2.2.2.1,t103.2.2.2.2.2.2.2.2.1,t103.2.2.2.2.2.2.2.2.2.1,t103.2.2.2.2.2.2.2.2.2.2.1,t103.2.2.2.2.2.2.2.2.2.2.2.1,()),t103.2.2.2.2.2.2.2.2.2.2.2.2.1,t103.2.2.2.2.2.2.2.2.2.2.2.2.2.1,()),(t103.2.2.1,t103.2.2.2.1,()),t103.1)
theorem zxA (a b:Int):w64 (w64 a+b)=w64 (a+b):=by
 simp only [w64,IntKind.wrap,IntKind.bits,IntKind.signed]; simp; omega
def zoP (l m:z6):z6:=(w64 (l.1+m.1),w64 (l.2.1+m.2.1),w64 (l.2.2.1+m.2.2.1),w64 (l.2.2.2.1+m.2.2.2.1),w64 (l.2.2.2.2.1+m.2.2.2.2.1),w64 (l.2.2.2.2.2.1+m.2.2.2.2.2.1),())
theorem zvJ (l m:z6):zcV [l,m]=some (zoP l m):=by
 unfold zcV;have hL:Lp (fun s9:Int×Int×Int×Int×Int×Int×Int=>
cond (decide (s9.1<(zn [l,m]))) (Zb (idx [l,m] s9.1) fun x12=>
some (.inl ((w64 (s9.1+1)),(w64 (s9.2.1+x12.1)),(w64 (s9.2.2.1+x12.2.1)),(w64 (s9.2.2.2.1+x12.2.2.1)),(w64 (s9.2.2.2.2.1+x12.2.2.2.1)),(w64 (s9.2.2.2.2.2.1+x12.2.2.2.2.1)),(w64 (s9.2.2.2.2.2.2+x12.2.2.2.2.2.1))))) (some (.inr (s9.2.1,s9.2.2.1,s9.2.2.2.1,s9.2.2.2.2.1,s9.2.2.2.2.2.1,s9.2.2.2.2.2.2)))) 2 (0,0,0,0,0,0,0) (w64 (w64 (0+l.1)+m.1),w64 (w64 (0+l.2.1)+m.2.1),w64 (w64 (0+l.2.2.1)+m.2.2.1),w64 (w64 (0+l.2.2.2.1)+m.2.2.2.1),w64 (w64 (0+l.2.2.2.2.1)+m.2.2.2.2.1),w64 (w64 (0+l.2.2.2.2.2.1)+m.2.2.2.2.2.1)):=Lp.step rfl (Lp.step rfl (Lp.done rfl))
 rw [hL.big (by simp only [big]; omega),Zs];simp only [zxA,Int.zero_add];rfl
section
variable (p:Plan) (way:List zG) (t:Train) (st stop:Int)
def zmJ (x:zb):Bool:=x.1==0&&decide (stop-zA t x≤1000)
def zkM:Nat->Int->z6->Int->Int->zb->Option (Leg×zb)
 | 0,tm,l,a,b,x=>if zmJ t stop x then some ((tm,zA t x,l,a,b,()),x) else none
 | n+1,tm,l,a,b,x=>if zmJ t stop x then some ((tm,zA t x,l,a,b,()),x) else
  match zqy p way t st stop x with
  | none=>none
  | some d=>zkM n (tm+100) (zoP l (zdc p way t st x d).1.2.1) (max a (zdc p way t st x d).1.2.2.1) (max b (zdc p way t st x d).1.2.2.2.1) (zdc p way t st x d).1.1
end
structure zmK (t:Train) (stop:Int) (x:zb):Prop where
 p:0≤x.1∧x.1≤25000*t.1
 w:10*t.1≤x.2.1∧x.2.1≤1000000000000000
 s:zA t x≤stop
section
variable {p:Plan} {way:List zG} {t:Train} {st:Int} {stops:List Int} {x:zb} (hp:zib p) (hw:zhI p way) (ht:zkz t) (hst:0≤st∧st<t.2.2.2.2.2.2.2.2.2.1.length) {stop:Int} (hS:stop≤1000000000)
include hp hw ht hst hS
theorem zmx (hx:zmK t stop x) {d:Int} (hd:zqy p way t st stop x=some d):zmK t stop (zdc p way t st x d).1.1∧(zdc p way t st x d).1.1.2.1=x.2.1+(zdc p way t st x d).1.1.1∧zga p way t stop (zdc p way t st x d).1.1=true:=by
 obtain ⟨h1,h2,h3⟩:=zks hd;unfold okD at h1;rw [Bool.and_eq_true] at h1;have hm:=ht.m;have hxw:=hx.w;have hso:zpt t x:=⟨hx.p,⟨by omega,by omega⟩⟩;have hfin:zoH t st d (slS p way t x):=⟨hst,by omega,zhh hp hw ht hso _⟩;obtain ⟨n1,n2⟩:=zgU ht hfin hx.p hso.w h1.1;have hs:=h1.2;unfold zmw at hs;rw [Bool.and_eq_true] at hs;have hf:=hs.1;unfold zga at hf;rw [Bool.and_eq_true,decide_eq_true_eq] at hf;refine ⟨⟨n1, ?_,hf.1⟩,n2,hs.1⟩;have n2':(zdc p way t st x d).1.1.2.1=x.2.1+(zdc p way t st x d).1.1.1:=n2;have n1':0≤(zdc p way t st x d).1.1.1∧(zdc p way t st x d).1.1.1≤25000*t.1:=n1;refine ⟨by omega, ?_⟩;have h5:=hf.1;unfold zA at h5;have h6:(zdc p way t st x d).1.1.2.1<(stop+1)*(10*t.1):=(Int.ediv_lt_iff_lt_mul (by omega)).1 (by omega);by_cases h0:0≤stop+1
 ·have h7:=zco (a:=stop+1) (b:=10*t.1) (A:=1000000001) (B:=800000) ⟨h0,by omega⟩ ⟨by omega,by omega⟩;omega
 ·have h8:=Int.mul_nonneg (a:=-(stop+1)) (b:=10*t.1) (by omega) (by omega);rw [Int.neg_mul] at h8;omega
section
variable {k:Nat} {tm l1 l2 l3 l4 l5 l6 a b v w:Int} (hx:zmK t stop (v,w,()))
include hx
omit hp hw hst in
theorem zhi:zpt t (v,w,())∧zW (zjs p way t st stops).1 (v,w,())=some (zA t (v,w,()))∧zP t (v,w,())=some (zA t (v,w,()))∧0≤zA t (v,w,()):=by
 have hm:=ht.m;have hxw:10*t.1≤w∧w≤1000000000000000:=hx.w;have hso:zpt t (v,w,()):=⟨hx.p,⟨by show 0≤w; omega,by show w≤_; omega⟩⟩;have h0:0≤w/(10*t.1):=Int.ediv_nonneg (by omega) (by omega);exact ⟨hso,(zgT ht hso st).1,(zgT ht hso st).2,h0⟩
theorem zpD (ha:zmJ t stop (v,w,())=true):∃ T,zxz (zjs p way t st stops) stop ((k:Int),tm,0,l1,l2,l3,l4,l5,l6,a,b,0,0,0,v,w,0,0,0,0,0,0,0,0,0)=some (.inr T)∧zxZ T=some ((tm,zA t (v,w,()),(l1,l2,l3,l4,l5,l6,()),a,b,()),(v,w,()),true):=by
 obtain ⟨_,e0,_,h0⟩:=zhi (stops:=stops) (st:=st) (p:=p) (way:=way) ht hS hx;have hs:=hx.s;unfold zmJ at ha;rw [Bool.and_eq_true,beq_iff_eq,decide_eq_true_eq] at ha;obtain ⟨ha1,ha2⟩:=ha;have ha1:v=0:=ha1;subst ha1;have hin:inB (stop-zA t (0,w,())) 0 1000=true:=zD.2 (by omega);unfold zxz;simp only [e0,Zs,show ((0:Int)==0)=true from rfl,cond_true,mwithin,zd (n:=stop-zA t (0,w,())) (by omega) (by omega),hin];exact ⟨_,rfl,rfl⟩
theorem zpE (ha:zmJ t stop (v,w,())=false) (hk:k=36000∨zqy p way t st stop (v,w,())=none):∃ T,zxz (zjs p way t st stops) stop ((k:Int),tm,0,l1,l2,l3,l4,l5,l6,a,b,0,0,0,v,w,0,0,0,0,0,0,0,0,0)=some (.inr T)∧∃ L X,zxZ T=some (L,X,false):=by
 obtain ⟨hso,e0,_,h0⟩:=zhi (stops:=stops) (st:=st) (p:=p) (way:=way) ht hS hx;have hs:=hx.s;have hm:=ht.m;have hxw:10*t.1≤w∧w≤1000000000000000:=hx.w;have hc:=znM (stops:=stops) hp hw ht hst hx.p (show 0≤((v,w,()):zb).2.1∧((v,w,()):zb).2.1≤500000000000000000 from ⟨by show 0≤w; omega,by show w≤_; omega⟩) stop;unfold zxz;by_cases hv:v=0
 ·subst hv;have hin:inB (stop-zA t (0,w,())) 0 1000=false:=by
   cases h:inB (stop-zA t (0,w,())) 0 1000 with
   | false=>rfl
   | true=>
    have:=zD.1 h;unfold zmJ at ha;rw [decide_eq_true (by omega)] at ha;cases ha
  simp only [e0,Zs,show ((0:Int)==0)=true from rfl,cond_true,mwithin,zd (n:=stop-zA t (0,w,())) (by omega) (by omega),hin,cond_false];by_cases hk0:k=36000
  ·subst hk0;exact ⟨_,rfl,_,_,rfl⟩
  ·have hkb:((k:Int)==36000)=false:=by simp; omega
   have hd:=hk.resolve_left hk0;rw [hd] at hc;simp only [hkb,cond_false,hc,Zs,Bool.not_false,cond_true];exact ⟨_,rfl,_,_,rfl⟩
 ·have hvb:(v==0)=false:=by simpa using hv
  simp only [e0,Zs,hvb,cond_false];by_cases hk0:k=36000
  ·subst hk0;exact ⟨_,rfl,_,_,rfl⟩
  ·have hkb:((k:Int)==36000)=false:=by simp; omega
   have hd:=hk.resolve_left hk0;rw [hd] at hc;simp only [hkb,cond_false,hc,Zs,Bool.not_false,cond_true];exact ⟨_,rfl,_,_,rfl⟩
theorem zxB (ha:zmJ t stop (v,w,())=false) (hk:k<36000) (htm:0≤tm∧tm≤3600000) {d:Int} (hd:zqy p way t st stop (v,w,())=some d):zxz (zjs p way t st stops) stop ((k:Int),tm,0,l1,l2,l3,l4,l5,l6,a,b,0,0,0,v,w,0,0,0,0,0,0,0,0,0)=some (.inl (((k+1:Nat):Int),tm+100,0,(zoP (l1,l2,l3,l4,l5,l6,()) (zdc p way t st (v,w,()) d).1.2.1).1,(zoP (l1,l2,l3,l4,l5,l6,()) (zdc p way t st (v,w,()) d).1.2.1).2.1,(zoP (l1,l2,l3,l4,l5,l6,()) (zdc p way t st (v,w,()) d).1.2.1).2.2.1,(zoP (l1,l2,l3,l4,l5,l6,()) (zdc p way t st (v,w,()) d).1.2.1).2.2.2.1,(zoP (l1,l2,l3,l4,l5,l6,()) (zdc p way t st (v,w,()) d).1.2.1).2.2.2.2.1,(zoP (l1,l2,l3,l4,l5,l6,()) (zdc p way t st (v,w,()) d).1.2.1).2.2.2.2.2.1,max a (zdc p way t st (v,w,()) d).1.2.2.1,max b (zdc p way t st (v,w,()) d).1.2.2.2.1,0,0,0,(zdc p way t st (v,w,()) d).1.1.1,(zdc p way t st (v,w,()) d).1.1.2.1,0,0,0,0,0,0,0,0,0)):=by
 obtain ⟨hso,e0,_,h0⟩:=zhi (stops:=stops) (st:=st) (p:=p) (way:=way) ht hS hx;have hs:=hx.s;have hm:=ht.m;have hxw:10*t.1≤w∧w≤1000000000000000:=hx.w;have hc:=znM (stops:=stops) hp hw ht hst hx.p (show 0≤((v,w,()):zb).2.1∧((v,w,()):zb).2.1≤500000000000000000 from ⟨by show 0≤w; omega,by show w≤_; omega⟩) stop;have hnw:=(zmx hp hw ht hst hS hx hd).1.w;have hkb:((k:Int)==36000)=false:=by simp; omega
 rw [hd] at hc;unfold zxz;by_cases hv:v=0
 ·subst hv;have hin:inB (stop-zA t (0,w,())) 0 1000=false:=by
   cases h:inB (stop-zA t (0,w,())) 0 1000 with
   | false=>rfl
   | true=>
    have:=zD.1 h;unfold zmJ at ha;rw [decide_eq_true (by omega)] at ha;cases ha
  simp only [e0,Zs,show ((0:Int)==0)=true from rfl,cond_true,mwithin,zd (n:=stop-zA t (0,w,())) (by omega) (by omega),hin,cond_false,hkb,hc,Bool.not_true,decide_eq_false (show ¬ (zdc p way t st (0,w,()) d).1.1.2.1>10000000000000000 by omega),zvJ,zx (show k<9223372036854775807 by omega),zd (n:=tm+100) (by omega) (by omega)]
 ·have hvb:(v==0)=false:=by simpa using hv
  simp only [e0,Zs,hvb,cond_false,hkb,hc,Bool.not_true,decide_eq_false (show ¬ (zdc p way t st (v,w,()) d).1.1.2.1>10000000000000000 by omega),zvJ,zx (show k<9223372036854775807 by omega),zd (n:=tm+100) (by omega) (by omega)]
end
theorem zuZ:∀ (n k:Nat) (tm l1 l2 l3 l4 l5 l6 a b v w:Int),k+n=36000->tm=100*k->zmK t stop (v,w,())->∃ T,Lp (zxz (zjs p way t st stops) stop) n ((k:Int),tm,0,l1,l2,l3,l4,l5,l6,a,b,0,0,0,v,w,0,0,0,0,0,0,0,0,0) T∧(match zkM p way t st stop n tm (l1,l2,l3,l4,l5,l6,()) a b (v,w,()) with | some (g,y)=>zxZ T=some (g,y,true) | none=>∃ L X,zxZ T=some (L,X,false)):=by
 intro n;induction n with
 | zero=>
  intro k tm l1 l2 l3 l4 l5 l6 a b v w hk htm hx;unfold zkM;cases ha:zmJ t stop (v,w,()) with
  | true=>
   obtain ⟨T,h1,h2⟩:=zpD (stops:=stops) (k:=k) (tm:=tm) (l1:=l1) (l2:=l2) (l3:=l3) (l4:=l4) (l5:=l5) (l6:=l6) (a:=a) (b:=b) hp hw ht hst hS hx ha;exact ⟨T,Lp.done h1,h2⟩
  | false=>
   obtain ⟨T,h1,h2⟩:=zpE (stops:=stops) (k:=k) (tm:=tm) (l1:=l1) (l2:=l2) (l3:=l3) (l4:=l4) (l5:=l5) (l6:=l6) (a:=a) (b:=b) hp hw ht hst hS hx ha (.inl (by omega));exact ⟨T,Lp.done h1,h2⟩
 | succ n ih=>
  intro k tm l1 l2 l3 l4 l5 l6 a b v w hk htm hx;unfold zkM;cases ha:zmJ t stop (v,w,()) with
  | true=>
   obtain ⟨T,h1,h2⟩:=zpD (stops:=stops) (k:=k) (tm:=tm) (l1:=l1) (l2:=l2) (l3:=l3) (l4:=l4) (l5:=l5) (l6:=l6) (a:=a) (b:=b) hp hw ht hst hS hx ha;exact ⟨T,Lp.done h1,h2⟩
  | false=>
   cases hd:zqy p way t st stop (v,w,()) with
   | none=>
    obtain ⟨T,h1,h2⟩:=zpE (stops:=stops) (k:=k) (tm:=tm) (l1:=l1) (l2:=l2) (l3:=l3) (l4:=l4) (l5:=l5) (l6:=l6) (a:=a) (b:=b) hp hw ht hst hS hx ha (.inr hd);exact ⟨T,Lp.done h1,h2⟩
   | some d=>
    have h1:=zxB (stops:=stops) (k:=k) (tm:=tm) (l1:=l1) (l2:=l2) (l3:=l3) (l4:=l4) (l5:=l5) (l6:=l6) (a:=a) (b:=b) hp hw ht hst hS hx ha (by omega) (by omega) hd;obtain ⟨T,h2,h3⟩:=ih (k+1) (tm+100) _ _ _ _ _ _ (max a (zdc p way t st (v,w,()) d).1.2.2.1) (max b (zdc p way t st (v,w,()) d).1.2.2.2.1) (zdc p way t st (v,w,()) d).1.1.1 (zdc p way t st (v,w,()) d).1.1.2.1 (by omega) (by omega) (zmx hp hw ht hst hS hx hd).1;exact ⟨T,Lp.step h1 h2,h3⟩
theorem zy0 (hx:zmK t stop x):∃ L X,zbt (zjs p way t st stops) x stop=some (match zkM p way t st stop 36000 0 (0,0,0,0,0,0,()) 0 0 x with | some (g,y)=>(g,y,true) | none=>(L,X,false)):=by
 obtain ⟨T,h1,h2⟩:=zuZ (stops:=stops) hp hw ht hst hS 36000 0 0 0 0 0 0 0 0 0 0 x.1 x.2.1 (by omega) (by omega) hx;have hB:=h1.big (by simp only [big]; omega);have e:zbt (zjs p way t st stops) x stop=zxZ T:=(congrArg (fun o=>Zb o zxZ) hB);rw [e];have e2:((x.1,x.2.1,()):zb)=x:=rfl;rw [e2] at h2;cases hl:zkM p way t st stop 36000 0 (0,0,0,0,0,0,()) 0 0 x with
 | some g=>rw [hl] at h2; exact ⟨default,default,h2⟩
 | none=>
  rw [hl] at h2;obtain ⟨L,X,h2⟩:=h2;exact ⟨L,X,h2⟩
end
end Go.Ai.Sx

/- Motion: the reference's leg. -/
namespace Go.Ai.Sx
open Option renaming bind->Zb,bind_some->Zs
def zmy (p_0:Plan) (p_1:List zG) (p_2:Train) (p_3:Int) (p_4:List Int) (i_281:Int) (x286:Int):(Int×Int×Int×Int×Int×Int×Int×Int×Int×Int×Int×Int)->Option ((Int×Int×Int×Int×Int×Int×Int×Int×Int×Int×Int×Int)⊕((Train×zb×Int×(List Int)×Int×Int×Int×Int×Bool×Int×Int×Int×Int×Int×Int×Int×Int×Int×Int×Int)⊕((List Leg)×Bool×Int×Int×Int×Int×Int×Int×Int×Int×Int×Int×Int))):=(fun s371=>
cond (decide (s371.2.2.2.2.2.2.2.2.2.2.1>0)) (cond (s371.1==36000) (some (.inr (.inr ([],false,s371.2.1,s371.2.2.1,s371.2.2.2.1,s371.2.2.2.2.1,s371.2.2.2.2.2.1,s371.2.2.2.2.2.2.1,s371.2.2.2.2.2.2.2.1,s371.2.2.2.2.2.2.2.2.1,s371.2.2.2.2.2.2.2.2.2.1,s371.2.2.2.2.2.2.2.2.2.2.1,s371.2.2.2.2.2.2.2.2.2.2.2)))) (cond (decide (s371.2.2.2.2.2.2.2.2.2.2.2>10000000000000000)) (some (.inr (.inr ([],false,s371.2.1,s371.2.2.1,s371.2.2.2.1,s371.2.2.2.2.1,s371.2.2.2.2.2.1,s371.2.2.2.2.2.2.1,s371.2.2.2.2.2.2.2.1,s371.2.2.2.2.2.2.2.2.1,s371.2.2.2.2.2.2.2.2.2.1,s371.2.2.2.2.2.2.2.2.2.2.1,s371.2.2.2.2.2.2.2.2.2.2.2)))) (Zb (zcx ((p_0,p_1,p_2,p_3,x286,()):z9) (s371.2.2.2.2.2.2.2.2.2.2.1,s371.2.2.2.2.2.2.2.2.2.2.2,())) fun y385=>
cond (!y385.2) (some (.inr (.inr ([],false,s371.2.1,s371.2.2.1,s371.2.2.2.1,s371.2.2.2.2.1,s371.2.2.2.2.2.1,s371.2.2.2.2.2.2.1,s371.2.2.2.2.2.2.2.1,s371.2.2.2.2.2.2.2.2.1,s371.2.2.2.2.2.2.2.2.2.1,s371.2.2.2.2.2.2.2.2.2.2.1,s371.2.2.2.2.2.2.2.2.2.2.2)))) (Zb (zP p_2 (s371.2.2.2.2.2.2.2.2.2.2.1,s371.2.2.2.2.2.2.2.2.2.2.2,())) fun y389=>
Zb (za6 ((p_0,p_1,p_2,p_3,x286,()):z9) y389) fun y390=>
Zb (zbO p_2 (s371.2.2.2.2.2.2.2.2.2.2.1,s371.2.2.2.2.2.2.2.2.2.2.2,()) y385.1 y390 p_3) fun y391=>
Zb (zaJ p_2 (s371.2.2.2.2.2.2.2.2.2.2.1,s371.2.2.2.2.2.2.2.2.2.2.2,()) y385.1 y390 p_3) fun y392=>
Zb (zeC (s371.2.2.1,s371.2.2.2.1,s371.2.2.2.2.1,s371.2.2.2.2.2.1,s371.2.2.2.2.2.2.1,s371.2.2.2.2.2.2.2.1,()) y392.2.1) fun y395=>
some (.inl ((w64 (s371.1+1)),(w64 (s371.2.1+100)),y395.1,y395.2.1,y395.2.2.1,y395.2.2.2.1,y395.2.2.2.2.1,y395.2.2.2.2.2.1,(max s371.2.2.2.2.2.2.2.2.1 y391.1),(max s371.2.2.2.2.2.2.2.2.2.1 y391.2),y392.1.1,y392.1.2.1)))))) (Zb (zP p_2 (s371.2.2.2.2.2.2.2.2.2.2.1,s371.2.2.2.2.2.2.2.2.2.2.2,())) fun y396=>
Zb (idx p_4 i_281) fun x397=>
cond (decide (y396<(w64 (x397-1000)))) (cond (s371.1==36000) (some (.inr (.inr ([],false,s371.2.1,s371.2.2.1,s371.2.2.2.1,s371.2.2.2.2.1,s371.2.2.2.2.2.1,s371.2.2.2.2.2.2.1,s371.2.2.2.2.2.2.2.1,s371.2.2.2.2.2.2.2.2.1,s371.2.2.2.2.2.2.2.2.2.1,s371.2.2.2.2.2.2.2.2.2.2.1,s371.2.2.2.2.2.2.2.2.2.2.2)))) (cond (decide (s371.2.2.2.2.2.2.2.2.2.2.2>10000000000000000)) (some (.inr (.inr ([],false,s371.2.1,s371.2.2.1,s371.2.2.2.1,s371.2.2.2.2.1,s371.2.2.2.2.2.1,s371.2.2.2.2.2.2.1,s371.2.2.2.2.2.2.2.1,s371.2.2.2.2.2.2.2.2.1,s371.2.2.2.2.2.2.2.2.2.1,s371.2.2.2.2.2.2.2.2.2.2.1,s371.2.2.2.2.2.2.2.2.2.2.2)))) (Zb (zcx ((p_0,p_1,p_2,p_3,x286,()):z9) (s371.2.2.2.2.2.2.2.2.2.2.1,s371.2.2.2.2.2.2.2.2.2.2.2,())) fun y403=>
cond (!y403.2) (some (.inr (.inr ([],false,s371.2.1,s371.2.2.1,s371.2.2.2.1,s371.2.2.2.2.1,s371.2.2.2.2.2.1,s371.2.2.2.2.2.2.1,s371.2.2.2.2.2.2.2.1,s371.2.2.2.2.2.2.2.2.1,s371.2.2.2.2.2.2.2.2.2.1,s371.2.2.2.2.2.2.2.2.2.2.1,s371.2.2.2.2.2.2.2.2.2.2.2)))) (Zb (zP p_2 (s371.2.2.2.2.2.2.2.2.2.2.1,s371.2.2.2.2.2.2.2.2.2.2.2,())) fun y407=>
Zb (za6 ((p_0,p_1,p_2,p_3,x286,()):z9) y407) fun y408=>
Zb (zbO p_2 (s371.2.2.2.2.2.2.2.2.2.2.1,s371.2.2.2.2.2.2.2.2.2.2.2,()) y403.1 y408 p_3) fun y409=>
Zb (zaJ p_2 (s371.2.2.2.2.2.2.2.2.2.2.1,s371.2.2.2.2.2.2.2.2.2.2.2,()) y403.1 y408 p_3) fun y410=>
Zb (zeC (s371.2.2.1,s371.2.2.2.1,s371.2.2.2.2.1,s371.2.2.2.2.2.1,s371.2.2.2.2.2.2.1,s371.2.2.2.2.2.2.2.1,()) y410.2.1) fun y413=>
some (.inl ((w64 (s371.1+1)),(w64 (s371.2.1+100)),y413.1,y413.2.1,y413.2.2.1,y413.2.2.2.1,y413.2.2.2.2.1,y413.2.2.2.2.2.1,(max s371.2.2.2.2.2.2.2.2.1 y409.1),(max s371.2.2.2.2.2.2.2.2.2.1 y409.2),y410.1.1,y410.1.2.1)))))) (some (.inr (.inl (p_2,(s371.2.2.2.2.2.2.2.2.2.2.1,s371.2.2.2.2.2.2.2.2.2.2.2,()),y396,p_4,i_281,x397,x397,(w64 (x397-1000)),(decide (y396<(w64 (x397-1000)))),s371.2.1,s371.2.2.1,s371.2.2.2.1,s371.2.2.2.2.1,s371.2.2.2.2.2.1,s371.2.2.2.2.2.2.1,s371.2.2.2.2.2.2.2.1,s371.2.2.2.2.2.2.2.2.1,s371.2.2.2.2.2.2.2.2.2.1,s371.2.2.2.2.2.2.2.2.2.2.1,s371.2.2.2.2.2.2.2.2.2.2.2))))))
def zqz (p_2:Train) (a_281:List Leg) (i_281:Int):((Train×zb×Int×(List Int)×Int×Int×Int×Int×Bool×Int×Int×Int×Int×Int×Int×Int×Int×Int×Int×Int)⊕((List Leg)×Bool×Int×Int×Int×Int×Int×Int×Int×Int×Int×Int×Int))->Option (((List Leg)×Int×Int×Int)⊕(((List Leg)×Int×Int)⊕((List Leg)×Bool))):=fun t414=>
alt (fun b416=>Zb (zP p_2 (b416.2.2.2.2.2.2.2.2.2.2.2.2.2.2.2.2.2.2.1,b416.2.2.2.2.2.2.2.2.2.2.2.2.2.2.2.2.2.2.2,())) fun y418=>
Zb (zdQ 80 a_281 ([(b416.2.2.2.2.2.2.2.2.2.1,y418,(b416.2.2.2.2.2.2.2.2.2.2.1,b416.2.2.2.2.2.2.2.2.2.2.2.1,b416.2.2.2.2.2.2.2.2.2.2.2.2.1,b416.2.2.2.2.2.2.2.2.2.2.2.2.2.1,b416.2.2.2.2.2.2.2.2.2.2.2.2.2.2.1,b416.2.2.2.2.2.2.2.2.2.2.2.2.2.2.2.1,()),b416.2.2.2.2.2.2.2.2.2.2.2.2.2.2.2.2.1,b416.2.2.2.2.2.2.2.2.2.2.2.2.2.2.2.2.2.1,())])) fun x419=>
some (.inl (x419,(w64 (i_281+1)),b416.2.2.2.2.2.2.2.2.2.2.2.2.2.2.2.2.2.2.1,b416.2.2.2.2.2.2.2.2.2.2.2.2.2.2.2.2.2.2.2))) (fun b417=>some (.inr (.inr (b417.1,b417.2.1)))) t414
section
variable {p:Plan} {way:List zG} {t:Train} {st:Int} {stops:List Int} {x:zb} (hp:zib p) (hw:zhI p way) (ht:zkz t) (hst:0≤st∧st<t.2.2.2.2.2.2.2.2.2.1.length) {stop:Int} (hS:stop≤1000000000) {i:Int} (hi:idx stops i=some stop) (hi0:0≤i∧i≤1000000) (hs0:0≤stop)
include hp hw ht hst hS hi hi0 hs0
section
variable {k:Nat} {tm l1 l2 l3 l4 l5 l6 a b v w:Int} (hx:zmK t stop (v,w,()))
include hx
theorem znO (ha:zmJ t stop (v,w,())=true):∃ T,zmy p way t st stops i stop ((k:Int),tm,l1,l2,l3,l4,l5,l6,a,b,v,w)=some (.inr T)∧∀ acc:List Leg,acc.length≤1000000->zqz t acc i T=some (.inl (acc++[(tm,zA t (v,w,()),(l1,l2,l3,l4,l5,l6,()),a,b,())],w64 (i+1),v,w)):=by
 obtain ⟨_,_,e0,h0⟩:=zhi (stops:=stops) (st:=st) (p:=p) (way:=way) ht hS hx;have hs:=hx.s;unfold zmJ at ha;rw [Bool.and_eq_true,beq_iff_eq,decide_eq_true_eq] at ha;obtain ⟨ha1,ha2⟩:=ha;have ha1:v=0:=ha1;subst ha1;unfold zmy;simp only [e0,Zs,decide_eq_false (show ¬ (0:Int)>0 by omega),cond_false,hi,zd (n:=stop-1000) (by omega) (by omega),decide_eq_false (show ¬ zA t (0,w,())<stop-1000 by omega)];refine ⟨_,rfl,fun acc hacc=>?_⟩;unfold zqz;simp only [zbu,e0,Zs];rw [za5 (by simp; omega),Zs]
theorem znP (ha:zmJ t stop (v,w,())=false) (hk:k=36000∨zqy p way t st stop (v,w,())=none):∃ T,zmy p way t st stops i stop ((k:Int),tm,l1,l2,l3,l4,l5,l6,a,b,v,w)=some (.inr T)∧∀ acc:List Leg,zqz t acc i T=some (.inr (.inr ([],false))):=by
 obtain ⟨hso,_,e0,h0⟩:=zhi (stops:=stops) (st:=st) (p:=p) (way:=way) ht hS hx;have hs:=hx.s;have hm:=ht.m;have hxw:10*t.1≤w∧w≤1000000000000000:=hx.w;have hxp:0≤v∧v≤25000*t.1:=hx.p;have hc:=znN hp hw ht hst hx.p (show 10*t.1≤((v,w,()):zb).2.1∧((v,w,()):zb).2.1≤500000000000000000 from ⟨by show _≤w; omega,by show w≤_; omega⟩) stop;unfold zmy;by_cases hv:v=0
 ·subst hv;have hlt:zA t (0,w,())<stop-1000:=by
   unfold zmJ at ha;rw [show (((0,w,()):zb).1==0)=true from rfl,Bool.true_and,decide_eq_false_iff_not] at ha;omega
  simp only [e0,Zs,decide_eq_false (show ¬ (0:Int)>0 by omega),cond_false,hi,zd (n:=stop-1000) (by omega) (by omega),decide_eq_true hlt,cond_true];by_cases hk0:k=36000
  ·subst hk0;exact ⟨_,rfl,fun acc=>rfl⟩
  ·have hkb:((k:Int)==36000)=false:=by simp; omega
   have hd:=hk.resolve_left hk0;rw [hd] at hc;simp only [hkb,cond_false,decide_eq_false (show ¬ w>10000000000000000 by omega),hc,Zs,Bool.not_false,cond_true];exact ⟨_,rfl,fun acc=>rfl⟩
 ·simp only [decide_eq_true (show v>0 by omega),cond_true];by_cases hk0:k=36000
  ·subst hk0;exact ⟨_,rfl,fun acc=>rfl⟩
  ·have hkb:((k:Int)==36000)=false:=by simp; omega
   have hd:=hk.resolve_left hk0;rw [hd] at hc;simp only [hkb,cond_false,decide_eq_false (show ¬ w>10000000000000000 by omega),hc,Zs,Bool.not_false,cond_true];exact ⟨_,rfl,fun acc=>rfl⟩
theorem zu0 (ha:zmJ t stop (v,w,())=false) (hk:k<36000) (htm:0≤tm∧tm≤3600000) {d:Int} (hd:zqy p way t st stop (v,w,())=some d):zmy p way t st stops i stop ((k:Int),tm,l1,l2,l3,l4,l5,l6,a,b,v,w)=some (.inl (((k+1:Nat):Int),tm+100,(zoP (l1,l2,l3,l4,l5,l6,()) (zdc p way t st (v,w,()) d).1.2.1).1,(zoP (l1,l2,l3,l4,l5,l6,()) (zdc p way t st (v,w,()) d).1.2.1).2.1,(zoP (l1,l2,l3,l4,l5,l6,()) (zdc p way t st (v,w,()) d).1.2.1).2.2.1,(zoP (l1,l2,l3,l4,l5,l6,()) (zdc p way t st (v,w,()) d).1.2.1).2.2.2.1,(zoP (l1,l2,l3,l4,l5,l6,()) (zdc p way t st (v,w,()) d).1.2.1).2.2.2.2.1,(zoP (l1,l2,l3,l4,l5,l6,()) (zdc p way t st (v,w,()) d).1.2.1).2.2.2.2.2.1,max a (zdc p way t st (v,w,()) d).1.2.2.1,max b (zdc p way t st (v,w,()) d).1.2.2.2.1,(zdc p way t st (v,w,()) d).1.1.1,(zdc p way t st (v,w,()) d).1.1.2.1)):=by
 obtain ⟨hso,_,e0,h0⟩:=zhi (stops:=stops) (st:=st) (p:=p) (way:=way) ht hS hx;have hs:=hx.s;have hm:=ht.m;have hxw:10*t.1≤w∧w≤1000000000000000:=hx.w;have hxp:0≤v∧v≤25000*t.1:=hx.p;have hc:=znN hp hw ht hst hx.p (show 10*t.1≤((v,w,()):zb).2.1∧((v,w,()):zb).2.1≤500000000000000000 from ⟨by show _≤w; omega,by show w≤_; omega⟩) stop;have hkb:((k:Int)==36000)=false:=by simp; omega
 rw [hd] at hc;obtain ⟨_,q2,q3⟩:=zks hd;have hfin:zoH t st d (ze6 p way (zA t (v,w,()))):=⟨hst,by omega,zhh hp hw ht hso _⟩;have hsl:=zf9 (st:=st) (stop:=stop) hp hw ht (show 0≤zA t (v,w,())∧zA t (v,w,())≤4000000000000000000 by omega);have hpw:zbO t (v,w,()) d (ze6 p way (zA t (v,w,()))) st=some ((zdc p way t st (v,w,()) d).1.2.2.1,(zdc p way t st (v,w,()) d).1.2.2.2.1):=zyS ht hfin hso;have hsp:zaJ t (v,w,()) d (ze6 p way (zA t (v,w,()))) st=some ((zdc p way t st (v,w,()) d).1.1,(zdc p way t st (v,w,()) d).1.2.1,(zdc p way t st (v,w,()) d).2):=zmi ht hfin hso;have hsm:∀ l m:z6,zeC l m=some (zoP l m):=fun l m=>rfl;unfold zmy;by_cases hv:v=0
 ·subst hv;have hlt:zA t (0,w,())<stop-1000:=by
   unfold zmJ at ha;rw [show (((0,w,()):zb).1==0)=true from rfl,Bool.true_and,decide_eq_false_iff_not] at ha;omega
  simp only [e0,Zs,decide_eq_false (show ¬ (0:Int)>0 by omega),cond_false,hi,zd (n:=stop-1000) (by omega) (by omega),decide_eq_true hlt,cond_true,hkb,decide_eq_false (show ¬ w>10000000000000000 by omega),hc,Bool.not_true,hsl,hpw,hsp,hsm,zx (show k<9223372036854775807 by omega),zd (n:=tm+100) (by omega) (by omega)]
 ·simp only [e0,Zs,decide_eq_true (show v>0 by omega),cond_true,cond_false,hkb,decide_eq_false (show ¬ w>10000000000000000 by omega),hc,Bool.not_true,hsl,hpw,hsp,hsm,zx (show k<9223372036854775807 by omega),zd (n:=tm+100) (by omega) (by omega)]
end
theorem zsu:∀ (n k:Nat) (tm l1 l2 l3 l4 l5 l6 a b v w:Int),k+n=36000->tm=100*k->zmK t stop (v,w,())->∃ T,Lp (zmy p way t st stops i stop) n ((k:Int),tm,l1,l2,l3,l4,l5,l6,a,b,v,w) T∧∀ acc:List Leg,acc.length≤1000000->zqz t acc i T=some (match zkM p way t st stop n tm (l1,l2,l3,l4,l5,l6,()) a b (v,w,()) with | some (g,y)=>.inl (acc++[g],w64 (i+1),y.1,y.2.1) | none=>.inr (.inr ([],false))):=by
 intro n;induction n with
 | zero=>
  intro k tm l1 l2 l3 l4 l5 l6 a b v w hk htm hx;unfold zkM;cases ha:zmJ t stop (v,w,()) with
  | true=>
   obtain ⟨T,h1,h2⟩:=znO (k:=k) (tm:=tm) (l1:=l1) (l2:=l2) (l3:=l3) (l4:=l4) (l5:=l5) (l6:=l6) (a:=a) (b:=b) hp hw ht hst hS hi hi0 hs0 hx ha;exact ⟨T,Lp.done h1,h2⟩
  | false=>
   obtain ⟨T,h1,h2⟩:=znP (k:=k) (tm:=tm) (l1:=l1) (l2:=l2) (l3:=l3) (l4:=l4) (l5:=l5) (l6:=l6) (a:=a) (b:=b) hp hw ht hst hS hi hi0 hs0 hx ha (.inl (by omega));exact ⟨T,Lp.done h1,fun acc _=>h2 acc⟩
 | succ n ih=>
  intro k tm l1 l2 l3 l4 l5 l6 a b v w hk htm hx;unfold zkM;cases ha:zmJ t stop (v,w,()) with
  | true=>
   obtain ⟨T,h1,h2⟩:=znO (k:=k) (tm:=tm) (l1:=l1) (l2:=l2) (l3:=l3) (l4:=l4) (l5:=l5) (l6:=l6) (a:=a) (b:=b) hp hw ht hst hS hi hi0 hs0 hx ha;exact ⟨T,Lp.done h1,h2⟩
  | false=>
   cases hd:zqy p way t st stop (v,w,()) with
   | none=>
    obtain ⟨T,h1,h2⟩:=znP (k:=k) (tm:=tm) (l1:=l1) (l2:=l2) (l3:=l3) (l4:=l4) (l5:=l5) (l6:=l6) (a:=a) (b:=b) hp hw ht hst hS hi hi0 hs0 hx ha (.inr hd);exact ⟨T,Lp.done h1,fun acc _=>h2 acc⟩
   | some d=>
    have h1:=zu0 (k:=k) (tm:=tm) (l1:=l1) (l2:=l2) (l3:=l3) (l4:=l4) (l5:=l5) (l6:=l6) (a:=a) (b:=b) hp hw ht hst hS hi hi0 hs0 hx ha (by omega) (by omega) hd;obtain ⟨T,h2,h3⟩:=ih (k+1) (tm+100) _ _ _ _ _ _ (max a (zdc p way t st (v,w,()) d).1.2.2.1) (max b (zdc p way t st (v,w,()) d).1.2.2.2.1) (zdc p way t st (v,w,()) d).1.1.1 (zdc p way t st (v,w,()) d).1.1.2.1 (by omega) (by omega) (zmx hp hw ht hst hS hx hd).1;exact ⟨T,Lp.step h1 h2,h3⟩
theorem zxC (hx:zmK t stop x) (acc:List Leg) (hacc:acc.length≤1000000):Zb (iter (zmy p way t st stops i stop) big (0,0,0,0,0,0,0,0,0,0,x.1,x.2.1)) (zqz t acc i)=some (match zkM p way t st stop 36000 0 (0,0,0,0,0,0,()) 0 0 x with | some (g,y)=>.inl (acc++[g],w64 (i+1),y.1,y.2.1) | none=>.inr (.inr ([],false))):=by
 obtain ⟨T,h1,h2⟩:=zsu hp hw ht hst hS hi hi0 hs0 36000 0 0 0 0 0 0 0 0 0 0 x.1 x.2.1 (by omega) (by omega) hx;have hB:=h1.big (by simp only [big]; omega);rw [show ((0:Nat):Int)=0 from rfl] at hB;rw [hB,Zs];exact h2 acc hacc
end
end Go.Ai.Sx

/- Motion: a run begins. -/
namespace Go.Ai.Sx
open Option renaming bind->Zb,bind_some->Zs
def zdD (stops:List Int) (k:Nat):Int:=stops.getD k 0
def zy1 (stops:List Int):Bool:=(List.range (stops.length-1)).all fun k=>!decide (zdD stops (k+1)≤zdD stops k)
def ze2 (p:Plan) (way:List zG) (t:Train) (st:Int) (stops:List Int):Bool:=
 zaP p&&(zkA p way&&(trB t&&(inB st 0 (t.2.2.2.2.2.2.2.2.2.1.length-1)&&(inB (zn stops) 2 100&&(!decide (zdD stops 0<t.2.1)&&(zy1 stops&&decide (zdD stops (stops.length-1)≤wlS p way)))))))
theorem zpF {stops:List Int} (hl:2≤stops.length∧stops.length≤100) {τ:Type} (r0 r1:τ) {F:Int->Option (Int⊕τ)}
    (hF:∀ s,F s=cond (decide (s<(zn stops))) (Zb (idx stops s) fun x37=>
Zb (idx stops (w64 (s-1))) fun x38=>
cond (decide (x37≤x38)) (some (.inr r0)) (some (.inl (w64 (s+1))))) (some (.inr r1))):iter F big 1=some (if zy1 stops then r1 else r0):=by
  refine zb5 (fun k=>((k+1:Nat):Int)) (stops.length-1) (fun k=>!decide (zdD stops (k+1)≤zdD stops k)) r0 r1 rfl (by simp only [big]; omega) (fun k hk=>?_) ?_
  · rw [hF,zN (show k+1<stops.length by omega),cond_true,zp 0 (by omega),Zs,show w64 (((k+1:Nat):Int)-1)=(k:Int) by rw [zd (by omega) (by omega)]; omega,zp 0 (by omega),Zs,zx (by omega)];show cond (decide (zdD stops (k+1)≤zdD stops k)) _ _=_;cases decide (zdD stops (k+1)≤zdD stops k)<;>rfl
  · rw [hF,show stops.length-1+1=stops.length by omega,zO]; rfl
theorem zju {A:Type} (n:Nat) (f:Nat->A):rlN (n+1) f=rlN n f++[f n]:=by
 unfold rlN;rw [List.range_succ,List.map_append]; rfl
theorem zsv {stops:List Int} (hl:2≤stops.length∧stops.length≤100):idx stops (w64 (zn stops-1))=some (zdD stops (stops.length-1)):=by
 rw [zm,show w64 ((stops.length:Int)-1)=((stops.length-1:Nat):Int) by rw [zd (by omega) (by omega)]; omega];exact zp 0 (by omega)
theorem zu1 {p:Plan} {way:List zG} {t:Train} (hv:zaP p=true) (hp:zib p) (hw:zhI p way):iter (σ:=(Int×Int×(List Int)×(List Int)×(List Int))) (τ:=((List Int)×(List Int)×(List Int))⊕((Option zaB)×Bool×(List Int)×(List Int)×(List Int))) (fun s110=>
cond (decide (s110.2.1<(zn way))) (Zb (idx way s110.2.1) fun x113=>
Zb (zb8 p x113.1) fun y115=>
cond (y115.2 !=0) (some (.inr (.inr ((none:Option zaB),false,s110.2.2.2.2,s110.2.2.2.1,s110.2.2.1)))) (Zb (idx p.2.1 x113.1) fun x117=>
cond (x113.2.1) (Zb (zdQ 8 s110.2.2.2.2 ([(w64 (s110.1+y115.1))])) fun x126=>
Zb (zdQ 8 s110.2.2.2.1 ([x117.2.2.2.1])) fun x128=>
Zb (zdQ 8 s110.2.2.1 ([(w64 (0-x117.2.2.2.2.1))])) fun x130=>
some (.inl ((w64 (s110.1+y115.1)),(w64 (s110.2.1+1)),x130,x128,x126))) (Zb (zdQ 8 s110.2.2.2.2 ([(w64 (s110.1+y115.1))])) fun x138=>
Zb (zdQ 8 s110.2.2.2.1 ([x117.2.2.2.1])) fun x140=>
Zb (zdQ 8 s110.2.2.1 ([x117.2.2.2.2.1])) fun x142=>
some (.inl ((w64 (s110.1+y115.1)),(w64 (s110.2.1+1)),x142,x140,x138))))) (some (.inr (.inl (s110.2.2.2.2,s110.2.2.2.1,s110.2.2.1))))) big (0,0,[],[],[])=some (.inl (zf8 p way,znH p way,znI p way)):=by
  have hn:=hw.n;have key:∀ (k i:Nat),i+k=way.length->Lp (σ:=(Int×Int×(List Int)×(List Int)×(List Int))) (τ:=((List Int)×(List Int)×(List Int))⊕((Option zaB)×Bool×(List Int)×(List Int)×(List Int))) (fun s110=>
cond (decide (s110.2.1<(zn way))) (Zb (idx way s110.2.1) fun x113=>
Zb (zb8 p x113.1) fun y115=>
cond (y115.2 !=0) (some (.inr (.inr ((none:Option zaB),false,s110.2.2.2.2,s110.2.2.2.1,s110.2.2.1)))) (Zb (idx p.2.1 x113.1) fun x117=>
cond (x113.2.1) (Zb (zdQ 8 s110.2.2.2.2 ([(w64 (s110.1+y115.1))])) fun x126=>
Zb (zdQ 8 s110.2.2.2.1 ([x117.2.2.2.1])) fun x128=>
Zb (zdQ 8 s110.2.2.1 ([(w64 (0-x117.2.2.2.2.1))])) fun x130=>
some (.inl ((w64 (s110.1+y115.1)),(w64 (s110.2.1+1)),x130,x128,x126))) (Zb (zdQ 8 s110.2.2.2.2 ([(w64 (s110.1+y115.1))])) fun x138=>
Zb (zdQ 8 s110.2.2.2.1 ([x117.2.2.2.1])) fun x140=>
Zb (zdQ 8 s110.2.2.1 ([x117.2.2.2.2.1])) fun x142=>
some (.inl ((w64 (s110.1+y115.1)),(w64 (s110.2.1+1)),x142,x140,x138))))) (some (.inr (.inl (s110.2.2.2.2,s110.2.2.2.1,s110.2.2.1))))) k (zbq p way i,(i:Int),rlN i (zgX p way),rlN i (zkL p way),rlN i (fun j=>zbq p way (j+1))) (.inl (zf8 p way,znH p way,znI p way)):=by
    intro k;induction k with
    | zero=>
      intro i hi;have:i=way.length:=by omega
      subst this;refine Lp.done ?_;simp only [zO,cond_false];rfl
    | succ k ih=>
      intro i hi;have hil:i<way.length:=by omega
      have hb:=zhg hp hw (i:=i) (by omega);have hb1:=zhg hp hw (i:=i+1) (by omega);have hsx:=zhf p way i;have hml:mvl p way i=zhs p (way.getD i M0).1:=rfl;have hwe:w64 (zbq p way i+zhs p (way.getD i M0).1)=zbq p way (i+1):=by
        rw [← hml,← hsx,zd (by omega) (by omega)]
      obtain ⟨_,hs,hr⟩:=zmu hp hw hil;have hh:zqM p ((way.getD i M0).1,false,())=true:=zjr.2 (hw.m i hil);have hlen:zb8 p (way.getD i M0).1=some (zhs p (way.getD i M0).1,0):=by
        rw [zso,hv,hh]; rfl
      refine Lp.step ?_ (ih (i+1) (by omega));have a1:∀ (f:Nat->Int) (v:Int),v=f i->zdQ 8 (rlN i f) [v]=some (rlN (i+1) f):=fun f v hvf=>by
        rw [za5 (by simp only [zdp,List.length_singleton]; omega),zju,hvf]
      have z0:((0:Int)!=0)=false:=rfl;simp only [zN hil,cond_true,zp M0 hil,Zs,hlen,z0,cond_false,hr,hwe,zx (show i<9223372036854775807 by omega)];have a2:=a1 (fun j=>zbq p way (j+1)) (zbq p way (i+1)) rfl;have a3:=a1 (zkL p way) (zht p way i).2.2.2.1 rfl;simp only [a2,a3,Zs];unfold zgX at hs;cases hrv:(way.getD i M0).2.1 with
      | true=>
        rw [hrv] at hs;simp only [if_true] at hs;have e:w64 (0-(zht p way i).2.2.2.2.1)=zgX p way i:=by
          unfold zgX;rw [hrv,zd (by omega) (by omega),Int.zero_sub]; rfl
        simp only [a1 (zgX p way) _ e,Zs,cond_true,cond_false]
      | false=>
        have e:(zht p way i).2.2.2.2.1=zgX p way i:=by
          unfold zgX;rw [hrv]; rfl
        simp only [a1 (zgX p way) _ e,Zs,cond_true,cond_false]
  have hL:=(key way.length 0 (by omega)).big (by simp only [big]; omega);exact hL
theorem zpG (p:Plan) (way:List zG) (t:Train) (st:Int) (stops:List Int) (hwl:way.length≤9223372036854775807) (hsl:stops.length≤9223372036854775807):zdK p way t st stops=some (if ze2 p way t st stops then (some (zjs p way t st stops),true) else (none,false)):=by
 unfold zdK ze2;rw [zr2,Zs,zi6 p hwl,Zs];cases hv:zaP p with
 | false=>
  simp only [Bool.false_and,Bool.false_eq_true,if_false];cases (trB t&&inB st 0 (t.2.2.2.2.2.2.2.2.2.1.length-1))<;>rfl
 | true=>
 cases hwy:zkA p way with
 | false=>
  simp only [Bool.true_and,Bool.false_and,Bool.and_false,Bool.false_eq_true,if_false];cases (trB t&&inB st 0 (t.2.2.2.2.2.2.2.2.2.1.length-1))<;>rfl
 | true=>
 cases htr:trB t with
 | false=>rfl
 | true=>
 cases hin:inB st 0 (t.2.2.2.2.2.2.2.2.2.1.length-1) with
 | false=>rfl
 | true=>
 have hp:=zbY hv;have hw:=zgW hwy;simp only [Bool.true_and,if_true,Bool.not_true,cond_false,show ((0:Int)!=0)=false from rfl,mwithin,Zs];cases hln:inB (zn stops) 2 100 with
 | false=>rfl
 | true=>
 have hl:=zD.1 hln;rw [zm] at hl;have hl:2≤stops.length∧stops.length≤100:=by omega
 have h0:idx stops 0=some (zdD stops 0):=zp (i:=0) 0 (by omega);simp only [Bool.not_true,cond_false,h0,Zs,zsv hl,Bool.true_and];cases decide (zdD stops 0<t.2.1) with
 | true=>rfl
 | false=>
 simp only [cond_false,Zs,Bool.not_false,Bool.true_and];by_cases hgt:zdD stops (stops.length-1)>wlS p way
 ·rw [decide_eq_true hgt,decide_eq_false (show ¬ zdD stops (stops.length-1)≤wlS p way by omega),Bool.and_false]; rfl
 ·rw [decide_eq_false hgt,decide_eq_true (show zdD stops (stops.length-1)≤wlS p way by omega),Bool.and_true,cond_false];rw [zpF (τ:=Unit⊕((Option zaB)×Bool)) hl (.inr (none,false)) (.inl ()) (fun s=>rfl),Zs];cases zy1 stops with
  | false=>rfl
  | true=>
   simp only [if_true,zbu,Zs];have hB:=zu1 (t:=t) hv hp hw;exact congrArg (fun o=>Zb o fun t144:((List Int)×(List Int)×(List Int))⊕((Option zaB)×Bool×(List Int)×(List Int)×(List Int))=>alt (fun b146=>some ((some ((t,st,()),way,b146.1,b146.2.1,b146.2.2,stops,())),true)) (fun b147=>some (b147.1,b147.2.1)) t144) hB
theorem zsw (p:Plan) (way:List zG) (t:Train) (st:Int) (stops:List Int) (hwl:way.length≤9223372036854775807) (hsl:stops.length≤9223372036854775807):zei p way t st stops=some (ze2 p way t st stops):=by
 unfold zei ze2;rw [zkn,Zs];cases hv:zaP p with
 | false=>rfl
 | true=>
 have hp:=zbY hv;rw [zsl hp hwl,Zs];cases hwy:zkA p way with
 | false=>rfl
 | true=>
 have hw:=zgW hwy;rw [zuC,Zs];cases htr:trB t with
 | false=>rfl
 | true=>
 have ht:=zoG.1 htr;simp only [Bool.not_true,cond_false,Zs,rin,wlen ht,Bool.true_and];cases hin:inB st 0 (t.2.2.2.2.2.2.2.2.2.1.length-1) with
 | false=>rfl
 | true=>
 simp only [Bool.not_true,cond_false,Zs,Bool.true_and];cases hln:inB (zn stops) 2 100 with
 | false=>rfl
 | true=>
 have hl:=zD.1 hln;rw [zm] at hl;have hl:2≤stops.length∧stops.length≤100:=by omega
 have h0:idx stops 0=some (zdD stops 0):=zp (i:=0) 0 (by omega);simp only [Bool.not_true,cond_false,h0,Zs,zsv hl,Bool.true_and];cases decide (zdD stops 0<t.2.1) with
 | true=>rfl
 | false=>
 simp only [cond_false,Zs,Bool.not_false,Bool.true_and];rw [zpF (τ:=Unit⊕Bool) hl (.inr false) (.inl ()) (fun s=>rfl),Zs];cases zy1 stops with
 | false=>rfl
 | true=>
  simp only [if_true,zbu,Zs,zvH hp hw,Bool.true_and]
end Go.Ai.Sx

/- Motion: all legs. -/
namespace Go.Ai.Sx
open Option renaming bind->Zb,bind_some->Zs
def zu2 (p_2:Train) (y1:Option zaB) (x7:List Int):((List Leg)×Int×Int×Int)->Option (((List Leg)×Int×Int×Int)⊕(((List Leg)×Int×Int)⊕((List Leg)×Int×Int×Int))):=(fun s32=>
cond (decide (s32.2.1<(zn x7))) (Zb (idx x7 s32.2.1) fun x35=>
Zb (y1) fun p36=>
Zb (zbt p36 (s32.2.2.1,s32.2.2.2,()) x35) fun y37=>
cond (!y37.2.2) (some (.inr (.inr ([],4,s32.2.2.1,s32.2.2.2)))) (cond (decide (s32.2.2.2>10000000000000000)) (some (.inr (.inr ([],4,s32.2.2.1,s32.2.2.2)))) (Zb (zdQ 80 s32.1 ([y37.1])) fun x44=>
some (.inl (x44,(w64 (s32.2.1+1)),y37.2.1.1,y37.2.1.2.1))))) (some (.inr (.inl (s32.1,s32.2.2.1,s32.2.2.2)))))
def zpH (p_0:Plan) (p_1:List zG) (p_2:Train) (p_3:Int) (p_4:List Int):((List Leg)×Int×Int×Int)->Option (((List Leg)×Int×Int×Int)⊕(((List Leg)×Int×Int)⊕((List Leg)×Bool))):=fun s281=>
cond (decide (s281.2.1<(zn p_4))) (Zb (idx p_4 s281.2.1) fun x286=>
Zb (iter (zmy p_0 p_1 p_2 p_3 p_4 s281.2.1 x286) big (0,0,0,0,0,0,0,0,0,0,s281.2.2.1,s281.2.2.2)) (zqz p_2 s281.1 s281.2.1)) (some (.inr (.inl (s281.1,s281.2.2.1,s281.2.2.2))))
section
variable (p:Plan) (way:List zG) (t:Train) (st:Int)
def zkB:List Int->zb->Option (List Leg×zb)
 | [],x=>some ([],x)
 | s::r,x=>match zkM p way t st s 36000 0 (0,0,0,0,0,0,()) 0 0 x with
  | none=>none
  | some (g,y)=>match zkB r y with
   | none=>none
   | some (gs,z)=>some (g::gs,z)
end
structure RunOk (p:Plan) (way:List zG) (t:Train) (st:Int) (stops:List Int):Prop where
 hp:zib p
 hw:zhI p way
 ht:zkz t
 hst:0≤st∧st<t.2.2.2.2.2.2.2.2.2.1.length
 hn:2≤stops.length∧stops.length≤100
 h0:t.2.1≤zdD stops 0
 up:∀ k,k+1<stops.length->zdD stops k<zdD stops (k+1)
 la:zdD stops (stops.length-1)≤wlS p way
 b:wlS p way≤248000000
section
variable {p:Plan} {way:List zG} {t:Train} {st:Int} {stops:List Int} (R:RunOk p way t st stops)
include R
theorem zpI {i j:Nat} (h:i≤j) (hj:j<stops.length):zdD stops i≤zdD stops j:=by
 induction j with
 | zero=>rw [show i=0 by omega]; omega
 | succ j ih=>
  by_cases e:i=j+1
  ·subst e; omega
  ·have h1:=ih (by omega) (by omega);have h2:=R.up j hj;omega
theorem zsx {i:Nat} (hi:i<stops.length):1≤zdD stops i∧zdD stops i≤248000000:=by
 have h1:=zpI R (Nat.zero_le i) hi;have h2:=zpI R (i:=i) (j:=stops.length-1) (by omega) (by omega);have:=R.h0;have:=R.la;have:=R.b;have:=R.ht.len;omega
theorem zpJ {stop:Int} (hS:stop≤1000000000):∀ (n:Nat) (tm:Int) (l:z6) (a b:Int) (x:zb) (g:Leg) (y:zb),zmK t stop x->zkM p way t st stop n tm l a b x=some (g,y)->zmK t stop y:=by
 intro n;induction n with
 | zero=>
  intro tm l a b x g y hx h;unfold zkM at h;split at h
  ·cases h; exact hx
  ·cases h
 | succ n ih=>
  intro tm l a b x g y hx h;unfold zkM at h;split at h
  ·cases h; exact hx
  ·cases hd:zqy p way t st stop x with
   | none=>rw [hd] at h; cases h
   | some d=>
    rw [hd] at h;exact ih _ _ _ _ _ _ _ (zmx R.hp R.hw R.ht R.hst hS hx hd).1 h
theorem zmK.up {s s':Int} {x:zb} (h:zmK t s x) (hs:s≤s'):zmK t s' x:=⟨h.p,h.w,by have:=h.s; omega⟩
theorem zy2 {i:Nat} (h:i+1<stops.length):stops.drop (i+1)=zdD stops (i+1)::stops.drop (i+2):=by
 rw [List.drop_eq_getElem_cons h];congr 1;unfold zdD;simp [h]
theorem zu3:∀ (k i:Nat) (acc:List Leg) (x:zb),i+k+1=stops.length->acc.length≤i->zmK t (zdD stops i) x->∃ T,Lp (zu2 t (some (zjs p way t st stops)) (stops.drop 1)) k (acc,(i:Int),x.1,x.2.1) T∧(match zkB p way t st (stops.drop (i+1)) x with | some (gs,z)=>T=.inl (acc++gs,z.1,z.2.1) | none=>∃ v w,T=.inr ([],4,v,w)):=by
 have hn:=R.hn;intro k;induction k with
 | zero=>
  intro i acc x hi hacc hx;refine ⟨.inl (acc,x.1,x.2.1),Lp.done ?_, ?_⟩
  ·unfold zu2;have:(stops.drop 1).length=i:=by rw [List.length_drop]; omega
   subst this;simp only [zO,cond_false]
  ·rw [List.drop_of_length_le (by omega)];unfold zkB;simp only [List.append_nil]
 | succ k ih=>
  intro i acc x hi hacc hx;have hi1:i+1<stops.length:=by omega
  have hb:=zsx R hi1;have hup:=R.up i hi1;have hxn:=zmK.up R hx (s':=zdD stops (i+1)) (by omega);have hw:x.2.1≤1000000000000000:=hx.w.2;have hdl:(stops.drop 1).length=stops.length-1:=by rw [List.length_drop]
  have hix:idx (stops.drop 1) (i:Int)=some (zdD stops (i+1)):=by
   rw [zp 0 (by omega)];congr 1;unfold zdD;simp [List.getD,Nat.add_comm]
  rw [zy2 R hi1];obtain ⟨L,X,hleg⟩:=zy0 (stops:=stops) R.hp R.hw R.ht R.hst (stop:=zdD stops (i+1)) (by omega) hxn;unfold zkB;cases hl:zkM p way t st (zdD stops (i+1)) 36000 0 (0,0,0,0,0,0,()) 0 0 x with
  | none=>
   rw [hl] at hleg;refine ⟨.inr ([],4,x.1,x.2.1),Lp.done ?_,⟨_,_,rfl⟩⟩;unfold zu2;simp only [zN (show i<(stops.drop 1).length by omega),cond_true,hix,Zs];show (Zb (zbt (zjs p way t st stops) x (zdD stops (i+1))) _:Option _)=_;rw [hleg]; rfl
  | some gy=>
   obtain ⟨g,y⟩:=gy;rw [hl] at hleg;have hy:=zpJ R (by omega) _ _ _ _ _ _ _ _ hxn hl;obtain ⟨T,h1,h2⟩:=ih (i+1) (acc++[g]) y (by omega) (by simp; omega) hy;refine ⟨T,Lp.step ?_ h1, ?_⟩
   ·unfold zu2;simp only [zN (show i<(stops.drop 1).length by omega),cond_true,hix,Zs];show (Zb (zbt (zjs p way t st stops) x (zdD stops (i+1))) _:Option _)=_;rw [hleg,Zs];simp only [Bool.not_true,cond_false,decide_eq_false (show ¬ x.2.1>10000000000000000 by omega)];rw [za5 (by simp; omega),Zs,zx (by omega)]
   ·simp only [];rw [show i+1+1=i+2 by omega] at h2;cases hd:zkB p way t st (stops.drop (i+2)) y with
    | none=>rw [hd] at h2; exact h2
    | some gz=>
     rw [hd] at h2;simp only [] at h2 ⊢;rw [h2,List.append_assoc]; rfl
theorem zsy:∀ (k i:Nat) (acc:List Leg) (x:zb),i+k+1=stops.length->acc.length≤i->zmK t (zdD stops i) x->∃ T,Lp (zpH p way t st stops) k (acc,((i+1:Nat):Int),x.1,x.2.1) T∧(match zkB p way t st (stops.drop (i+1)) x with | some (gs,z)=>T=.inl (acc++gs,z.1,z.2.1)∧z.2.1≤1000000000000000 | none=>T=.inr ([],false)):=by
 have hn:=R.hn;intro k;induction k with
 | zero=>
  intro i acc x hi hacc hx;refine ⟨.inl (acc,x.1,x.2.1),Lp.done ?_, ?_⟩
  ·unfold zpH;have:stops.length=i+1:=by omega
   rw [← this];simp only [zO,cond_false]
  ·rw [List.drop_of_length_le (by omega)];unfold zkB;simp only [List.append_nil];exact ⟨trivial,hx.w.2⟩
 | succ k ih=>
  intro i acc x hi hacc hx;have hi1:i+1<stops.length:=by omega
  have hb:=zsx R hi1;have hup:=R.up i hi1;have hxn:=zmK.up R hx (s':=zdD stops (i+1)) (by omega);have hw:x.2.1≤1000000000000000:=hx.w.2;have hix:idx stops ((i+1:Nat):Int)=some (zdD stops (i+1)):=zp 0 hi1;rw [zy2 R hi1];have hleg:=zxC (stops:=stops) (i:=((i+1:Nat):Int)) R.hp R.hw R.ht R.hst (stop:=zdD stops (i+1)) (by omega) hix (by omega) (by omega) hxn acc (by omega);unfold zkB;cases hl:zkM p way t st (zdD stops (i+1)) 36000 0 (0,0,0,0,0,0,()) 0 0 x with
  | none=>
   rw [hl] at hleg;refine ⟨.inr ([],false),Lp.done ?_,rfl⟩;unfold zpH;simp only [zN hi1,cond_true,hix,Zs];exact hleg
  | some gy=>
   obtain ⟨g,y⟩:=gy;rw [hl] at hleg;have hy:=zpJ R (by omega) _ _ _ _ _ _ _ _ hxn hl;obtain ⟨T,h1,h2⟩:=ih (i+1) (acc++[g]) y (by omega) (by simp; omega) hy;refine ⟨T,Lp.step ?_ h1, ?_⟩
   ·unfold zpH;simp only [zN hi1,cond_true,hix,Zs];rw [zx (by omega)] at hleg;exact hleg
   ·simp only [];rw [show i+1+1=i+2 by omega] at h2;cases hd:zkB p way t st (stops.drop (i+2)) y with
    | none=>rw [hd] at h2; exact h2
    | some gz=>
     rw [hd] at h2;simp only [] at h2 ⊢;refine ⟨?_,h2.2⟩;rw [h2.1,List.append_assoc]; rfl
def st0 (t:Train) (stops:List Int):zb:=(0,10*t.1*zdD stops 0,())
theorem zpK:w64 (w64 (10*t.1)*zdD stops 0)=(st0 t stops).2.1∧zmK t (zdD stops 0) (st0 t stops):=by
 have hm:=R.ht.m;have hn:=R.hn;have hb:=zsx R (i:=0) (by omega);have h1:=zco (a:=10*t.1) (b:=zdD stops 0) (A:=800000) (B:=248000000) ⟨by omega,by omega⟩ ⟨by omega,by omega⟩;refine ⟨?_,⟨by show (0:Int)≤0; omega,by show (0:Int)≤_; omega⟩,⟨?_,by show 10*t.1*zdD stops 0≤_; omega⟩, ?_⟩
 ·rw [zd (n:=10*t.1) (by omega) (by omega),zd (by omega) (by omega)]; rfl
 ·show 10*t.1≤10*t.1*zdD stops 0;have h9:10*t.1*1≤10*t.1*zdD stops 0:=Int.mul_le_mul_of_nonneg_left hb.1 (by omega);omega
 ·show 10*t.1*zdD stops 0/(10*t.1)≤zdD stops 0;rw [Int.mul_ediv_cancel_left _ (by omega)];omega
def zhl (p:Plan) (way:List zG) (t:Train) (st:Int) (stops:List Int):Option (List Leg):=(zkB p way t st (stops.drop 1) (st0 t stops)).map (·.1)
theorem zsz (hsb:ze2 p way t st stops=true):zb9 p way t st stops=some (match zhl p way t st stops with | some gs=>(gs,0) | none=>([],4)):=by
 have hn:=R.hn;have hw:=R.hw.n;unfold zb9;rw [zpG p way t st stops (by omega) (by omega),hsb];simp only [if_true,Zs,Bool.not_true,cond_false];have h0:idx stops 0=some (zdD stops 0):=zp (i:=0) 0 (by omega);have hsl:slO stops 1 (zn stops)=some (stops.drop 1):=by
  rw [zuy (by rw [zm]; omega),zm];simp
 rw [h0,Zs,hsl,Zs,(zpK R).1];obtain ⟨T,h1,h2⟩:=zu3 R (stops.length-1) 0 [] (st0 t stops) (by omega) (by simp) (zpK R).2;have hB:=h1.big (by simp only [big]; omega);refine (congrArg (fun o=>Zb o fun t46:((List Leg)×Int×Int)⊕((List Leg)×Int×Int×Int)=>alt (fun b48=>some (b48.1,(0:Int))) (fun b49=>some (b49.1,b49.2.1)) t46) hB).trans ?_;rw [Zs];unfold zhl;rw [Nat.zero_add] at h2;cases hd:zkB p way t st (stops.drop 1) (st0 t stops) with
 | some gz=>
  rw [hd] at h2;simp only [] at h2;rw [h2]; rfl
 | none=>
  rw [hd] at h2;obtain ⟨v,w,h2⟩:=h2;rw [h2]; rfl
theorem zqA:zej p way t st stops=some (match zhl p way t st stops with | some gs=>(gs,true) | none=>([],false)):=by
 have hn:=R.hn;have hw:=R.hw.n;have h0:idx stops 0=some (zdD stops 0):=zp (i:=0) 0 (by omega);obtain ⟨T,h1,h2⟩:=zsy R (stops.length-1) 0 [] (st0 t stops) (by omega) (by simp) (zpK R).2;have hB:=h1.big (by simp only [big]; omega);rw [← (zpK R).1] at hB;unfold zej;rw [h0,Zs];refine (congrArg (fun o=>Zb o fun t421:((List Leg)×Int×Int)⊕((List Leg)×Bool)=>alt (fun b423=>some (b423.1,(decide (b423.2.2≤10000000000000000)))) (fun b424=>some (b424.1,b424.2)) t421) hB).trans ?_;rw [Zs];unfold zhl;rw [Nat.zero_add] at h2;cases hd:zkB p way t st (stops.drop 1) (st0 t stops) with
 | some gz=>
  rw [hd] at h2;simp only [] at h2;rw [h2.1];simp only [zbu,decide_eq_true (show gz.2.2.1≤10000000000000000 by have:=h2.2; omega)];rfl
 | none=>
  rw [hd] at h2;simp only [] at h2;rw [h2]; rfl
end
end Go.Ai.Sx

/- Motion: the law of the drive. -/
namespace Go.Ai.Sx
open Option renaming bind->Zb,bind_some->Zs
theorem zsA {l:List Leg} (hl:l.length≤1000):zaT l (fun x=>zeI x)=some (l.map (·.1)):=by
  unfold zaT;have hL:=zcR (f:=fun s7:List Int×Int=>
cond (decide (s7.2<(zn l))) (Zb (idx l s7.2) fun x10=>
Zb (zeI x10) fun y12=>
Zb (zdQ 8 s7.1 ([y12])) fun x13=>
some (.inl (x13,(w64 (s7.2+1))))) (some (.inr s7.1))) l (fun i b=>(b,(i:Int))) (fun _ b c=>(.inl (b++[c.1]):List Int⊕List Int)) (fun b=>b) (fun i b=>b.length=i) [] (s0:=([],0)) rfl (by omega) rfl (fun i h b hb=>by
      refine ⟨?_,fun b' hb'=>?_⟩
      · simp only [];rw [zN h,cond_true,zeD,List.getElem?_eq_getElem h,Zs];show (Zb (some l[i].1) _:Option _)=_;rw [Zs,za5 (by simp; omega),Zs,zx (by omega)]
      · cases hb'; simp; omega) (fun b _=>by simp only [zO,cond_false])
  rw [hL,zfm,Zs];have:∀ (l:List Leg) (b:List Int),l.foldl (fun b c=>b++[c.1]) b=b++l.map (·.1):=by
    intro l;induction l with
    | nil=>intro b; simp
    | cons a l ih=>intro b; rw [List.foldl_cons,ih]; simp
  rw [this]; rfl
theorem zsB {p:Plan} {way:List zG} {t:Train} {st:Int} {stops:List Int} {gs:List Leg} {e:Int} (h:zb9 p way t st stops=some (gs,e)) (hl:gs.length≤1000):zbV p way t st stops=some (if e=0 then (gs.map (·.1),0) else ([],e)):=by
 unfold zbV;rw [h,Zs];by_cases h0:e=0
 ·subst h0;simp only [show ((0:Int)!=0)=false from rfl,cond_false,zsA hl,Zs];rfl
 ·have hb:(e !=0)=true:=by simpa using h0
  simp only [hb,cond_true];rw [if_neg h0]
section
variable {p:Plan} {way:List zG} {t:Train} {st:Int} {stops:List Int} (R:RunOk p way t st stops)
include R
omit R in
theorem zpL:∀ {r:List Int} {x:zb} {gs:List Leg} {z:zb},zkB p way t st r x=some (gs,z)->gs.length=r.length
 | [],x,gs,z,h=>by unfold zkB at h; cases h; rfl
 | s::r,x,gs,z,h=>by
  unfold zkB at h;cases hl:zkM p way t st s 36000 0 (0,0,0,0,0,0,()) 0 0 x with
  | none=>rw [hl] at h; cases h
  | some gy=>
   rw [hl] at h;simp only [] at h;cases hd:zkB p way t st r gy.2 with
   | none=>rw [hd] at h; cases h
   | some q=>
    rw [hd] at h;cases h;have:=zpL hd;simp [this]
theorem zmz {gs:List Leg} (h:zhl p way t st stops=some gs):gs.length=stops.length-1:=by
 unfold zhl at h;cases hd:zkB p way t st (stops.drop 1) (st0 t stops) with
 | none=>rw [hd] at h; cases h
 | some q=>
  rw [hd] at h;cases h;rw [zpL hd,List.length_drop]
end
end Go.Ai.Sx

/- Motion: a run's times,for callers in other chapters. -/
namespace Go.Ai.Sx
open Option renaming bind->Zb,bind_some->Zs
theorem ziM {p:Plan} {way:List zG} {t:Train} {st:Int} {stops:List Int} (h:ze2 p way t st stops=true) (hb:wlS p way≤248000000):RunOk p way t st stops:=by
 unfold ze2 at h;simp only [Bool.and_eq_true] at h;obtain ⟨h1,h2,h3,h4,h5,h6,h7,h8⟩:=h;have hp:=zbY h1;have hw:=zgW h2;have h4:=zD.1 h4;have h5:=zD.1 h5;rw [zm] at h5;refine ⟨hp,hw,zoG.1 h3,by omega,by omega, ?_,fun k hk=>?_,of_decide_eq_true h8,hb⟩
 ·rw [Bool.not_eq_true',decide_eq_false_iff_not] at h6; omega
 ·unfold zy1 at h7;have:=List.all_eq_true.1 h7 k (List.mem_range.2 (by omega));rw [Bool.not_eq_true',decide_eq_false_iff_not] at this; omega
theorem zsC {p:Plan} {way:List zG} {t:Train} {st:Int} {stops:List Int} (hwl:way.length≤9223372036854775807) (hsl:stops.length≤9223372036854775807) (h:ze2 p way t st stops=false):zb9 p way t st stops=some ([],2):=by
 unfold zb9;rw [zpG p way t st stops hwl hsl,h];rfl
theorem zxD {p:Plan} {way:List zG} {t:Train} {st:Int} {stops:List Int} (h:ze2 p way t st stops=true) (hb:wlS p way≤248000000):zbV p way t st stops=some (match zhl p way t st stops with | some gs=>(gs.map (·.1),0) | none=>([],4)):=by
 have R:=ziM h hb;have hn:=R.hn;have hd:=zsz R h;cases hl:zhl p way t st stops with
 | none=>
  rw [hl] at hd;simp only [] at hd;rw [zsB hd (by simp)]; rfl
 | some gs=>
  rw [hl] at hd;simp only [] at hd;have hlen:=zmz R hl;rw [zsB hd (by omega)]; rfl
theorem zy3 {p:Plan} {way:List zG} {t:Train} {st:Int} {stops:List Int} (hwl:way.length≤9223372036854775807) (hsl:stops.length≤9223372036854775807) (h:ze2 p way t st stops=false):zbV p way t st stops=some ([],2):=by
 rw [zsB (zsC hwl hsl h) (by simp)]; rfl
end Go.Ai.Sx

/- Motion: how long legs take. -/
namespace Go.Ai.Sx
open Option renaming bind->Zb,bind_some->Zs
section
variable {p:Plan} {way:List zG} {t:Train} {st:Int} {stops:List Int}
theorem zvK {stop:Int}:∀ (n:Nat) (tm:Int) (l:z6) (a b:Int) (x:zb) (g:Leg) (y:zb),zkM p way t st stop n tm l a b x=some (g,y)->tm≤g.1∧g.1≤tm+100*n
 | 0,tm,l,a,b,x,g,y,h=>by
  unfold zkM at h;split at h
  ·cases h; simp
  ·cases h
 | n+1,tm,l,a,b,x,g,y,h=>by
  unfold zkM at h;split at h
  ·cases h; simp only []; omega
  ·split at h
   ·cases h
   ·have:=zvK n _ _ _ _ _ _ _ h;omega
theorem zvL:∀ {r:List Int} {x:zb} {gs:List Leg} {z:zb},zkB p way t st r x=some (gs,z)->∀ g∈gs,0≤g.1∧g.1≤3600000
 | [],x,gs,z,h=>by unfold zkB at h; cases h; simp
 | s::r,x,gs,z,h=>by
  unfold zkB at h;cases hl:zkM p way t st s 36000 0 (0,0,0,0,0,0,()) 0 0 x with
  | none=>rw [hl] at h; cases h
  | some gy=>
   rw [hl] at h;simp only [] at h;cases hd:zkB p way t st r gy.2 with
   | none=>rw [hd] at h; cases h
   | some q=>
    rw [hd] at h;cases h;intro g hg;rcases List.mem_cons.1 hg with rfl | hg
    ·have:=zvK 36000 0 _ _ _ _ gy.1 gy.2 hl;omega
    ·exact zvL hd g hg
theorem zxE {gs:List Leg} (h:zhl p way t st stops=some gs):∀ g∈gs,0≤g.1∧g.1≤3600000:=by
 unfold zhl at h;cases hd:zkB p way t st (stops.drop 1) (st0 t stops) with
 | none=>rw [hd] at h; cases h
 | some q=>
  rw [hd] at h;cases h;exact zvL hd
end
end Go.Ai.Sx

/- Service: numbers modulo others,departures. -/
namespace Go.Ai.Sx
open Option renaming bind->Zb,bind_some->Zs
theorem zsD {n h:Int} (hh:0<h):-h<n.tmod h∧n.tmod h<h:=⟨by
 by_cases hn:0≤n
 ·have:=Int.tmod_nonneg h hn; omega
 ·have h1:(-n).tmod h<h:=Int.tmod_lt_of_pos _ hh;rw [Int.neg_tmod] at h1;omega,Int.tmod_lt_of_pos _ hh⟩
theorem zxF {n h:Int} (hh:0<h):(n.tmod h+h).tmod h=n%h:=by
 have hb:=zsD (n:=n) hh;rw [Int.tmod_eq_emod_of_nonneg (by omega),Int.add_emod_right];have e:=Int.tmod_add_mul_tdiv n h;have e2:n=n.tmod h+h*n.tdiv h:=e.symm
 conv=>rhs; rw [e2]
 rw [Int.add_mul_emod_self_left]
theorem zsE {n h:Int} (hh:0<h) (h2:h≤1000000000000):(Zb (zos n h) fun x=>zos (w64 (x+h)) h)=some (n%h):=by
 have hb:=zsD (n:=n) hh;unfold zos;rw [if_neg (by omega),Zs,if_neg (by omega),zd (by omega) (by omega),zxF hh]
theorem zsF {a n:Int}:a+(-a)%n=-((-a)/n)*n:=by
 have:=Int.emod_add_mul_ediv (-a) n;rw [Int.neg_mul,Int.mul_comm ((-a)/n) n];omega
theorem zAZ {a n:Int} (hn:0<n):(a+(-a)%n)/n=-((-a)/n):=by
 rw [zsF,Int.mul_ediv_cancel _ (by omega)]
theorem zu4 {a n k:Int} (hn:0<n):-((-a)/n)≤k↔a≤k*n:=by
 constructor
 ·intro h;have h1:=Int.emod_nonneg (-a) (show n≠0 by omega);have h2:=zsF (a:=a) (n:=n);have h3:-((-a)/n)*n≤k*n:=Int.mul_le_mul_of_nonneg_right h (by omega);omega
 ·intro h;have h1:-k*n≤-a:=by rw [Int.neg_mul]; omega
  have:=(Int.le_ediv_iff_mul_le hn).2 h1;omega
theorem zsG {base start h:Int}:start+(base-start)%h=base+-((base-start)/h)*h:=by
 have:=Int.emod_add_mul_ediv (base-start) h;rw [Int.neg_mul,Int.mul_comm ((base-start)/h) h];omega
theorem zxG {r h:Int} (hh:0<h):((r+h-1)/h-1)*h<r∧r≤(r+h-1)/h*h:=by
 have h1:=Int.emod_add_mul_ediv (r+h-1) h;have h2:=Int.emod_nonneg (r+h-1) (show h≠0 by omega);have h3:=Int.emod_lt_of_pos (r+h-1) hh;rw [Int.sub_mul,Int.one_mul,Int.mul_comm ((r+h-1)/h) h];omega
theorem zvM {k h:Int} (hh:0<h):(k*h).tdiv h=k:=by
 rw [Int.mul_tdiv_cancel _ (by omega)]
end Go.Ai.Sx
