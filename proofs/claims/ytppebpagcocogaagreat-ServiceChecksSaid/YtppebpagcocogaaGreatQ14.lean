/- Tracks: which moves follow; ways and their lengths. -/
import Derived.Test.YtppebpagcocogaaGreatQ13
set_option linter.unusedSimpArgs false
set_option linter.unusedVariables false
set_option linter.unusedSectionVars false
namespace Go.Ai.Sx
def zid (m:zR):zq:=(m.1,!m.2.1,())
def zbz (p:Plan) (m:zR):zbT:=nd p (atS p (zid m))
def zm2 (p:Plan) (m:zR):Int:=((zbz p m).2.2.1.idxOf (zid m):Nat)
def zc2 (p:Plan) (m k:zR):Bool:=(zbz p m).2.2.1.zipIdx.any fun y=>zhU (zbz p m) (zm2 p m) (y.2:Int)&&y.1==k
def zsz (e:zq):Int:=if e.2.1 then 2*e.1+1 else 2*e.1
def zpR (n:Int):zR:=(n/2,n%2==1,())
theorem zoA {e:zq} (h:0≤e.1):zpR (zsz e)=e:=by
 obtain ⟨r,b,⟨⟩⟩:=e;unfold zpR zsz;simp only [] at h;cases b with
 | false =>
  simp only [Bool.false_eq_true,if_false];rw [show 2*r/2=r by omega,show 2*r%2=0 by omega]; rfl
 | true =>
  simp only [if_true];rw [show (2*r+1)/2=r by omega,show (2*r+1)%2=1 by omega]; rfl
theorem zrW {e:zq} (h:0≤e.1∧e.1<1000):zcv (e.1,e.2.1,())=some (zsz e):=by
 unfold zcv zsz;simp only [];cases e.2.1 with
 | false =>
  simp only [cond_false,Bool.false_eq_true,if_false];rw [zm (by omega) (by omega)]
 | true =>
  simp only [cond_true,if_true];rw [zm (n:=2*e.1) (by omega) (by omega),zm (by omega) (by omega)]
theorem zxf {n:Int} (h:0≤n∧n<10000):zdr n=some (zpR n):=by
 unfold zdr;rw [zb8 (by omega) (by omega),Option.bind_some];unfold zuC;rw [if_neg (by omega),Option.bind_some,Int.tmod_eq_emod_of_nonneg h.1];rfl
section
variable {p:Plan} (hp:zic p) {m:zR} (hm:0≤m.1∧m.1<p.2.1.length)
include hp hm
theorem zmL:0≤atS p (zid m)∧atS p (zid m)<p.1.length:=hp.at_bd (e:=zid m) hm
theorem zjJ:nodeB (zbz p m)=true:=hp.nodeB (zmL hp hm)
theorem znM:zid m∈(zbz p m).2.2.1:=hp.mem (e:=zid m) hm
theorem zuR:0≤zm2 p m∧zm2 p m<(zbz p m).2.2.1.length∧zm2 p m≤10:=by
 have h1:=List.idxOf_lt_length_iff.2 (znM hp hm);have h2:=zeg (zjJ hp hm);unfold zm2;omega
theorem ziB {e:zq} (he:e∈(zbz p m).2.2.1):0≤e.1∧e.1<p.2.1.length:=by
 have hb:=zmL hp hm;have h:=hp.at_ (atS p (zid m)).toNat (by omega);unfold zbz at he;rw [hp.nd_eq hb] at he;exact (h e he).1
theorem zrX:mget (plS p) (zid m)=some (zm2 p m):=by
 have hb:=zmL hp hm;have h1:=List.idxOf_lt_length_iff.2 (znM hp hm);have hn:zbz p m=p.1[(atS p (zid m)).toNat]'(by omega):=hp.nd_eq hb;have h2:=zxc hp (i:=(atS p (zid m)).toNat) (k:=(zbz p m).2.2.1.idxOf (zid m)) (by omega) (by rw [← hn]; exact h1);have h3:(p.1[(atS p (zid m)).toNat]'(by omega)).2.2.1[(zbz p m).2.2.1.idxOf (zid m)]'(by rw [← hn]; exact h1)=zid m:=by
  simp only [← hn];exact List.getElem_idxOf h1
 rw [h3] at h2;exact h2
def zlx (p:Plan) (m:zR):List Int:=((zbz p m).2.2.1.zipIdx.filter fun y=>zhU (zbz p m) (zm2 p m) (y.2:Int)).map fun y=>zsz y.1
omit hm hp in
theorem zrY:(zlx p m).length≤(zbz p m).2.2.1.length:=by
 unfold zlx;rw [List.length_map];have:=List.length_filter_le (fun y:zq×Nat=>zhU (zbz p m) (zm2 p m) (y.2:Int)) (zbz p m).2.2.1.zipIdx;rw [List.length_zipIdx] at this;exact this
theorem zt9 {n:Int} (h:n∈zlx p m):0≤n∧n<10000:=by
 unfold zlx at h;obtain ⟨y,hy,rfl⟩:=List.mem_map.1 h;have h1:=(List.mem_filter.1 hy).1;have h2:=ziB hp hm (e:=y.1) (List.fst_mem_of_mem_zipIdx h1);have hR:=hp.r;unfold zsz;split<;>omega
theorem zrZ:iter (σ:=((List Int)×Int)) (τ:=((List Int))) (fun s20 =>
cond ((decide (s20.2<(zz (zbz p m).2.2.1)))) (Option.bind (idx (zbz p m).2.2.1 s20.2) fun x23 =>
Option.bind (zcJ m) fun y27 =>
Option.bind (za6 (((zbz p m,()):zaf)) (((mget (znL p).2.2.1 y27).getD 0)) s20.2) fun y28 =>
cond (y28) (Option.bind (zcv (((x23.1,x23.2.1,()):zR))) fun y30 =>
Option.bind (zdJ 8 s20.1 ([y30])) fun x31 =>
some (.inl ((x31,(w64 (s20.2+1)))))) (some (.inl ((s20.1,(w64 (s20.2+1))))))) (some (.inr s20.1))) big (([],0))=some (zlx p m):=by
 have hR:=hp.r;have hes:=zeg (zjJ hp hm);have hpb:=zuR hp hm;rw [zcj (s0:=(([]:List Int),(0:Int))) (zbz p m).2.2.1 (fun k c=>(c,(k:Int))) (fun k c e=>(.inl (if zhU (zbz p m) (zm2 p m) (k:Int) then c++[zsz e] else c):List Int⊕List Int)) id (fun k c=>c.length≤k) [] rfl (by omega) (by simp)]
 ·rw [zjD (fun k c e=>if zhU (zbz p m) (zm2 p m) (k:Int) then c++[zsz e] else c) id];unfold zlx;have key:∀ (L:List (zq×Nat)) (c:List Int),L.foldl (fun c y=>if zhU (zbz p m) (zm2 p m) (y.2:Int) then c++[zsz y.1] else c) c=c++(L.filter fun y=>zhU (zbz p m) (zm2 p m) (y.2:Int)).map fun y=>zsz y.1:=by
   intro L;induction L with
   | nil=>intro c; simp
   | cons y L ih =>
    intro c;rw [List.foldl_cons,ih,List.filter_cons];cases zhU (zbz p m) (zm2 p m) (y.2:Int) with
    | true=>simp
    | false=>simp
  rw [key,List.nil_append]; rfl
 ·intro k hk c hc;simp only [];refine ⟨?_,fun b' hb=>?_⟩
  ·have he:=ziB hp hm (List.getElem_mem hk);rw [zY hk,cond_true,zbs hk,Option.bind_some];show Option.bind (some (zid m)) _=_;rw [Option.bind_some];have hpl:(znL p).2.2.1=plS p:=rfl;rw [hpl,zrX hp hm,Option.getD_some,zxe (zjJ hp hm) ⟨hpb.1,hpb.2.2⟩ (by omega),Option.bind_some,zrW (e:=(zbz p m).2.2.1[k]) ⟨he.1,by omega⟩,Option.bind_some,zbl (by simp only [List.length_singleton]; omega),Option.bind_some,zN (by omega)];cases zhU (zbz p m) (zm2 p m) (k:Int)<;>rfl
  ·cases hb;split
   ·rw [List.length_append,List.length_singleton]; omega
   ·omega
 ·intro c _;simp only [];rw [z7,cond_false]; rfl
theorem zpI (k:zR):zaP (znL p) m k=some (zc2 p m k):=by
  have hb:=zmL hp hm;have hes:=zeg (zjJ hp hm);have hlen:=zrY (p:=p) (m:=m);obtain ⟨ys,hy,hperm⟩:=zrU (xs:=zlx p m) (by omega);unfold zaP zcc zbi;rw [Option.bind_some];simp only [];show Option.bind (Option.bind (some (zid m)) _) _=_;rw [Option.bind_some];have hend:=(zhh (p:=(znL p).1) (e:=zid m) hm).1;have hpl:atS (znL p).1 (zid m)=atS p (zid m):=rfl;rw [hend,Option.bind_some,hpl];have hn:idx (znL p).1.1 (atS p (zid m))=some (zbz p m):=zdf (l:=p.1) (d:=N0) hb.1 hb.2;rw [hn,Option.bind_some,zrZ hp hm,Option.bind_some,hy,Option.bind_some];have hys:∀ n∈ys,0≤n∧n<10000:=fun n h=>zt9 hp hm (hperm.mem_iff.1 h);have hyl:ys.length≤4:=by have:=hperm.length_eq; omega
  have key:iter (σ:=(Int×(Bool⊕Bool))) (τ:=((Bool⊕Bool))⊕(((Bool⊕Bool)))) (fun s50 =>
cond ((decide (s50.1<(zz ys)))) (Option.bind (idx ys s50.1) fun x53 =>
Option.bind (zdr x53) fun y54 =>
Option.bind (goL s50.2) fun s55 =>
Option.bind (cond ((y54==k)) (some (.inr true)) (some (.inl s55))) fun y56 =>
cond ((!(y56).isLeft)) (some (.inr ((.inr y56)))) (some (.inl (((w64 (s50.1+1)),y56))))) (some (.inr ((.inl s50.2))))) big ((0,(.inl false)))=some (if ys.any (fun n=>zpR n==k) then .inr (.inr true) else .inl (.inl false)):=by
    rw [zcj (s0:=((0:Int),(Sum.inl false:Bool⊕Bool))) ys (fun i (_:Unit)=>((i:Int),(Sum.inl false:Bool⊕Bool))) (fun _ _ n=>if zpR n==k then .inr (.inr (.inr true)) else .inl ()) (fun _=>.inl (.inl false)) (fun _ _=>True) () rfl (by omega) trivial]
    · congr 1;have:∀ (l:List Int) (i:Nat),zeo (fun _ (_:Unit) n=>if zpR n==k then .inr (.inr (.inr true)) else .inl ()) (fun _=>.inl (.inl false)) l i ()=(if l.any (fun n=>zpR n==k) then .inr (.inr true) else .inl (.inl false):(Bool⊕Bool)⊕(Bool⊕Bool)):=by
        intro l;induction l with
        | nil=>intro i; rfl
        | cons n l ih =>
          intro i;rw [zeo,List.any_cons];cases h:(zpR n==k) with
          | true=>rfl
          | false =>
            simp only [Bool.false_eq_true,if_false,Bool.false_or];exact ih (i+1)
      exact this ys 0
    · intro i hi _ _;refine ⟨?_,fun _ _=>trivial⟩;simp only [];rw [zY hi,cond_true,zbs hi,Option.bind_some,zxf (hys _ (List.getElem_mem hi)),Option.bind_some,zN (by omega)];cases (zpR ys[i]==k)<;>rfl
    · intro _ _;simp only [];rw [z7,cond_false]
  rw [key];have hany:ys.any (fun n=>zpR n==k)=zc2 p m k:=by
    have h1:ys.any (fun n=>zpR n==k)=(zlx p m).any (fun n=>zpR n==k):=by
      rw [Bool.eq_iff_iff,List.any_eq_true,List.any_eq_true];constructor
      · rintro ⟨n,h,q⟩; exact ⟨n,hperm.mem_iff.1 h,q⟩
      · rintro ⟨n,h,q⟩; exact ⟨n,hperm.mem_iff.2 h,q⟩
    rw [h1];unfold zlx zc2;rw [Bool.eq_iff_iff,List.any_eq_true,List.any_eq_true];constructor
    · rintro ⟨n,h,q⟩
      obtain ⟨y,hy,rfl⟩:=List.mem_map.1 h;obtain ⟨hy1,hy2⟩:=List.mem_filter.1 hy;rw [zoA (ziB hp hm (List.fst_mem_of_mem_zipIdx hy1)).1] at q;exact ⟨y,hy1,by rw [hy2,q]; rfl⟩
    · rintro ⟨y,h,q⟩
      rw [Bool.and_eq_true] at q;refine ⟨zsz y.1,List.mem_map.2 ⟨y,List.mem_filter.2 ⟨h,q.1⟩,rfl⟩, ?_⟩;rw [zoA (ziB hp hm (List.fst_mem_of_mem_zipIdx h)).1];exact q.2
  rw [hany];cases zc2 p m k<;>rfl
omit hp hm in
theorem zmM (n:zbT) (e:zq) (hl:n.2.2.1.length≤1000):zcZ n e=some (if e∈n.2.2.1 then ((n.2.2.1.idxOf e:Nat):Int) else -1):=by
  unfold zcZ;have key:∀ (k i:Nat),i+k=n.2.2.1.length->Lp (fun s5:Int =>
cond ((decide (s5<(zz n.2.2.1)))) (Option.bind (idx n.2.2.1 s5) fun x9 =>
cond ((x9==e)) (some (Sum.inr ((Sum.inr s5:Unit⊕Int)))) (some (.inl ((w64 (s5+1)))))) (some (.inr ((.inl (())))))) k (i:Int) (if e∈n.2.2.1.drop i then .inr ((i+(n.2.2.1.drop i).idxOf e:Nat):Int) else .inl ()):=by
    intro k;induction k with
    | zero =>
      intro i hi;have:i=n.2.2.1.length:=by omega
      subst this;rw [List.drop_length,if_neg (by simp)];exact Lp.done (by simp only [z7,cond_false])
    | succ k ih =>
      intro i hi;have hlt:i<n.2.2.1.length:=by omega
      rw [List.drop_eq_getElem_cons hlt];by_cases hx:n.2.2.1[i]=e
      · rw [if_pos (by rw [hx]; exact List.mem_cons_self),hx,List.idxOf_cons_self];refine Lp.done ?_;rw [zY hlt,cond_true,zbs hlt,Option.bind_some,hx,beq_self_eq_true]; rfl
      · have hb:(n.2.2.1[i]==e)=false:=by simpa using hx
        have h2:=ih (i+1) (by omega);have hmem:(e∈n.2.2.1[i]::n.2.2.1.drop (i+1))↔e∈n.2.2.1.drop (i+1):=by
          rw [List.mem_cons];exact ⟨fun h=>h.resolve_left (fun q=>hx q.symm),.inr⟩
        have hix:(n.2.2.1[i]::n.2.2.1.drop (i+1)).idxOf e=(n.2.2.1.drop (i+1)).idxOf e+1:=by rw [List.idxOf_cons,hb,cond_false]
        rw [hix];have e2:(if e∈n.2.2.1[i]::n.2.2.1.drop (i+1) then (Sum.inr ((i+((n.2.2.1.drop (i+1)).idxOf e+1):Nat):Int):Unit⊕Int) else .inl ())=if e∈n.2.2.1.drop (i+1) then .inr ((i+1+(n.2.2.1.drop (i+1)).idxOf e:Nat):Int) else .inl ():=by
          by_cases q:e∈n.2.2.1.drop (i+1)
          · rw [if_pos (hmem.2 q),if_pos q,show i+((n.2.2.1.drop (i+1)).idxOf e+1)=i+1+(n.2.2.1.drop (i+1)).idxOf e by omega]
          · rw [if_neg (fun w=>q (hmem.1 w)),if_neg q]
        rw [e2];refine Lp.step (s':=((i+1:Nat):Int)) ?_ h2;rw [zY hlt,cond_true,zbs hlt,Option.bind_some,hb,cond_false,zN (by omega)]
  have h0:=key n.2.2.1.length 0 (by omega);rw [show ((0:Nat):Int)=0 from rfl,List.drop_zero] at h0;rw [h0.big (by simp only [big]; omega),Option.bind_some];by_cases q:e∈n.2.2.1
  · rw [if_pos q,if_pos q,znF,Nat.zero_add]
  · rw [if_neg q,if_neg q,zbx]
theorem znN (k:zR):zcf p m k=some (zc2 p m k):=by
 have hb:=zmL hp hm;have hok:=zjJ hp hm;have hes:=zeg hok;have hpb:=zuR hp hm;unfold zcf;show Option.bind (some (zid m)) _=_;rw [Option.bind_some,(zhh (p:=p) (e:=zid m) hm).2,Option.bind_some];have hn:idx p.1 (atS p (zid m))=some (zbz p m):=zdf (l:=p.1) (d:=N0) hb.1 hb.2;rw [hn,Option.bind_some];show Option.bind (some (zid m)) _=_;rw [Option.bind_some,zmM _ _ (by omega),if_pos (znM hp hm),Option.bind_some];show Option.bind (some (k:zq)) _=_;rw [Option.bind_some,zmM _ _ (by omega)];have hpos:(((zbz p m).2.2.1.idxOf (zid m):Nat):Int)=zm2 p m:=rfl;rw [hpos,decide_eq_true (show zm2 p m≥0 from hpb.1)];simp only [cond_true,Option.bind_some];have hndp:(zbz p m).2.2.1.Nodup:=hp.ndn hb;by_cases hk:(k:zq)∈(zbz p m).2.2.1
 ·have hlt:=List.idxOf_lt_length_iff.2 hk;rw [if_pos hk,decide_eq_true (Int.natCast_nonneg _),cond_true,zt8 _ ⟨hpb.1,hpb.2.2⟩ (by omega)];simp only [Option.bind_some];congr 1;unfold zc2;rw [Bool.eq_iff_iff,List.any_eq_true];constructor
  ·intro h;refine ⟨((k:zq),(zbz p m).2.2.1.idxOf k),List.mem_zipIdx_iff_getElem?.2 (by rw [List.getElem?_eq_getElem hlt,List.getElem_idxOf]), ?_⟩;rw [Bool.and_eq_true];exact ⟨h,by simp⟩
  ·rintro ⟨⟨e,j⟩,h1,h2⟩
   rw [Bool.and_eq_true,beq_iff_eq] at h2;obtain ⟨h2,h3⟩:=h2;simp only [] at h2 h3;subst h3;have hj:=List.mem_zipIdx_iff_getElem?.1 h1;obtain ⟨hj1,hj2⟩:=List.getElem?_eq_some_iff.1 hj;have:(zbz p m).2.2.1.idxOf e=j:=by
    have h4:=List.getElem_idxOf hlt;exact (List.getElem_inj hndp).1 (h4.trans hj2.symm)
   rw [this];exact h2
 ·rw [if_neg hk];have:zc2 p m k=false:=by
   unfold zc2;rw [List.any_eq_false]
   rintro ⟨e,j⟩ h1 h2
   rw [Bool.and_eq_true,beq_iff_eq] at h2;exact hk (h2.2▸List.fst_mem_of_mem_zipIdx h1)
  rw [this];rfl
end
end Go.Ai.Sx

/- Tracks: ways and their lengths,in the program and in the reference. -/
namespace Go.Ai.Sx
def zpS (p:Plan) (m:zR):Bool:=inB m.1 0 (p.2.1.length-1)
def M0:zR:=(0,false,())
def zjK (p:Plan) (l:List zR) (i:Nat):Bool:=zpS p (l.getD i M0)&&(decide (i=0)||zc2 p (l.getD (i-1) M0) (l.getD i M0))
def zjR (p:Plan) (l:List zR):Bool:=(List.range l.length).all (zjK p l)&&inB (zz l) 1 2000
def wlS (p:Plan) (l:List zR):Int:=zhn (fun i=>zgu p (l.getD i M0).1) 0 l.length
theorem ziC {p:Plan} {m:zR}:zpS p m=true↔0≤m.1∧m.1<p.2.1.length:=by
 unfold zpS;rw [zaH];omega
section
variable {p:Plan} (hp:zic p)
include hp
theorem zly {l:List zR} (hl:l.length≤9223372036854775807) {has:zR->Option Bool} {fol:zR->zR->Option Bool} (hh:∀ m,has m=some (zpS p m)) (hf:∀ m k:zR,0≤m.1∧m.1<(p.2.1.length:Int)->fol m k=some (zc2 p m k))
    {F:Int->Option (Int⊕(Unit⊕Bool))} (hF:∀ (i:Nat) (_:i<l.length),F i=Option.bind (has (l.getD i M0)) fun y37=>cond (!y37) (some (.inr (.inr false))) (cond (decide ((i:Int)>0)) (Option.bind (fol (l.getD (i-1) M0) (l.getD i M0)) fun y42=>cond (!y42) (some (.inr (.inr false))) (some (.inl (w64 ((i:Int)+1))))) (some (.inl (w64 ((i:Int)+1))))))
    (he:F l.length=some (.inr (.inl ()))):∀ (k i:Nat),i+k=l.length->(∀ j,j<i->zpS p (l.getD j M0)=true)->Lp F k (i:Int) (if (List.range' i k).all (zjK p l) then .inl () else .inr false)
  | 0,i,hi,_=>by
    have:i=l.length:=by omega
    subst this;exact Lp.done he
  | k+1,i,hi,hj=>by
    have hlt:i<l.length:=by omega
    rw [List.range'_succ,List.all_cons];cases hs:zpS p (l.getD i M0) with
    | false =>
      have:zjK p l i=false:=by unfold zjK; rw [hs]; rfl
      rw [this];refine Lp.done ?_;rw [hF i hlt,hh,hs]; rfl
    | true =>
      have hj':∀ j,j<i+1->zpS p (l.getD j M0)=true:=fun j h=>by
        by_cases e:j=i
        · rw [e]; exact hs
        · exact hj j (by omega)
      have ih:=zly hl hh hf hF he k (i+1) (by omega) hj';by_cases h0:i=0
      · subst h0;have:zjK p l 0=true:=by unfold zjK; rw [hs]; rfl
        rw [this,Bool.true_and];refine Lp.step (s':=((0+1:Nat):Int)) ?_ ih;rw [hF 0 hlt,hh,hs]; rfl
      · have hw:zjK p l i=zc2 p (l.getD (i-1) M0) (l.getD i M0):=by unfold zjK; rw [hs,decide_eq_false h0]; rfl
        rw [hw];have hprev:=ziC.1 (hj (i-1) (by omega));have hFi:F i=cond (!zc2 p (l.getD (i-1) M0) (l.getD i M0)) (some (.inr (.inr false))) (some (.inl ((i+1:Nat):Int))):=by
          rw [hF i hlt,hh,hs,decide_eq_true (show (i:Int)>0 by omega),hf _ _ hprev,zN (by omega)]; rfl
        cases hb:zc2 p (l.getD (i-1) M0) (l.getD i M0) with
        | false =>
          rw [hb] at hFi;rw [Bool.false_and];exact Lp.done hFi
        | true =>
          rw [hb] at hFi;rw [Bool.true_and];exact Lp.step hFi ih
theorem zuS (m:zR):zaZ (znL p) m=some (zpS p m):=by
 unfold zaZ;rw [twithin,Option.bind_some];have:w64 (zz (znL p).1.2.1-1)=p.2.1.length-1:=wrails hp.r;rw [this]; rfl
theorem zua (m:zR):zds p m=some (zpS p m):=by
 unfold zds;rw [zrK,Option.bind_some,wrails hp.r]; rfl
theorem zxg {l:List zR} (hl:l.length≤9223372036854775807):zbQ (znL p) l=some (zjR p l):=by
  unfold zbQ;have hL:=zly hp hl (fun m=>zuS hp m) (fun m k hm=>zpI hp hm k) (F:=fun s22 =>
cond ((decide (s22<(zz l)))) (Option.bind (idx l s22) fun x25 =>
Option.bind (zaZ (znL p) x25) fun y37 =>
cond ((!y37)) (some (.inr ((.inr false)))) (cond ((decide (s22>0))) (Option.bind (idx l ((w64 (s22-1)))) fun x41 =>
Option.bind (zaP (znL p) x41 x25) fun y42 =>
cond ((!y42)) (some (.inr ((.inr false)))) (some (.inl ((w64 (s22+1)))))) (some (.inl ((w64 (s22+1))))))) (some (.inr ((.inl (())))))) (fun i hi=>by
      rw [zY hi,cond_true,zI M0 hi,Option.bind_some];by_cases h0:i=0
      · subst h0; rfl
      · rw [decide_eq_true (show (i:Int)>0 by omega),zm (n:=(i:Int)-1) (by omega) (by omega),show (i:Int)-1=((i-1:Nat):Int) by omega,zI M0 (show i-1<l.length by omega)];rfl) (by simp only [z7,cond_false]) l.length 0 (by omega) (fun j hj=>by omega)
  rw [show ((0:Nat):Int)=0 from rfl] at hL;rw [hL.big (by simp only [big]; omega),Option.bind_some,← List.range_eq_range'];unfold zjR;cases (List.range l.length).all (zjK p l) with
  | false=>rfl
  | true=>simp only [if_true,zbx,twithin]; rfl
theorem zr0 {l:List zR} (hl:l.length≤9223372036854775807):zd0 p l=some (zjR p l):=by
  unfold zd0;have hL:=zly hp hl (fun m=>zua hp m) (fun m k hm=>znN hp hm k) (F:=fun s26 =>
cond ((decide (s26<(zz l)))) (Option.bind (idx l s26) fun x43 =>
Option.bind (zds p x43) fun y44 =>
cond ((!y44)) (some (.inr ((.inr false)))) (cond ((decide (s26>0))) (Option.bind (idx l ((w64 (s26-1)))) fun x48 =>
Option.bind (idx l s26) fun x49 =>
Option.bind (zcf p x48 x49) fun y50 =>
cond ((!y50)) (some (.inr ((.inr false)))) (some (.inl ((w64 (s26+1)))))) (some (.inl ((w64 (s26+1))))))) (some (.inr ((.inl (())))))) (fun i hi=>by
      rw [zY hi,cond_true,zI M0 hi,Option.bind_some];by_cases h0:i=0
      · subst h0; rfl
      · rw [decide_eq_true (show (i:Int)>0 by omega),zm (n:=(i:Int)-1) (by omega) (by omega),show (i:Int)-1=((i-1:Nat):Int) by omega,zI M0 (show i-1<l.length by omega)];rfl) (by simp only [z7,cond_false]) l.length 0 (by omega) (fun j hj=>by omega)
  rw [show ((0:Nat):Int)=0 from rfl] at hL;rw [hL.big (by simp only [big]; omega),Option.bind_some,← List.range_eq_range'];unfold zjR;cases (List.range l.length).all (zjK p l) with
  | false=>rfl
  | true=>simp only [if_true,zbx,zrK]; rfl
structure zhk (p:Plan) (l:List zR):Prop where
 n:1≤l.length∧l.length≤2000
 m:∀ i,i<l.length->0≤(l.getD i M0).1∧(l.getD i M0).1<p.2.1.length
omit hp in
theorem zhV {l:List zR} (h:zjR p l=true):zhk p l:=by
 unfold zjR at h;rw [Bool.and_eq_true,zaH,zE] at h;refine ⟨by omega,fun i hi=>?_⟩;have:=List.all_eq_true.1 h.1 i (List.mem_range.2 hi);unfold zjK at this;rw [Bool.and_eq_true] at this;exact ziC.1 this.1
theorem zlz {i:Int} (hi:0≤i∧i<p.2.1.length):1≤zgu p i∧zgu p i≤31000000:=hp.len hi
theorem zr1 {l:List zR} (h:zhk p l) {lg:zR->Option Int} (hg:∀ m:zR,0≤m.1∧m.1<p.2.1.length->lg m=some (zgu p m.1)):iter (σ:=(Int×Int)) (τ:=(Int)) (fun s6 =>
cond ((decide (s6.2<(zz l)))) (Option.bind (idx l s6.2) fun x9 =>
Option.bind (lg x9) fun x12 =>
some (.inl (((w64 (s6.1+x12)),(w64 (s6.2+1)))))) (some (.inr s6.1))) big ((0,0))=some (wlS p l):=by
  have hn:=h.n;have hL:=zlr (B:=31000000) (N:=l.length) (f:=fun i=>zgu p (l.getD i M0).1) (F:=fun s6:Int×Int =>
cond ((decide (s6.2<(zz l)))) (Option.bind (idx l s6.2) fun x9 =>
Option.bind (lg x9) fun x12 =>
some (.inl (((w64 (s6.1+x12)),(w64 (s6.2+1)))))) (some (.inr s6.1))) (by omega) (by omega) (by omega) (fun i hi=>by have:=zlz hp (h.m i hi); omega) l.length 0 0 (by omega) (by omega) (by omega) (fun i s _ hi=>by
      simp only [];rw [zY hi,cond_true,zI M0 hi,Option.bind_some,hg _ (h.m i hi),Option.bind_some]) (fun s=>by simp only [z7,cond_false])
  rw [show ((0:Nat):Int)=0 from rfl,Int.zero_add] at hL;exact hL.big (by simp only [big]; omega)
theorem zr2 {i:Int} (hi:0≤i∧i<p.2.1.length):idx (znL p).2.1 i=some (zgu p i):=by
 show idx ((List.range p.2.1.length).map fun i:Nat=>zgu p (i:Int)) i=_;rw [zrC hi.1 (by rw [List.length_map,List.length_range]; exact hi.2)];simp only [List.getElem_map,List.getElem_range];rw [Int.toNat_of_nonneg hi.1]
theorem zzj {l:List zR} (h:zhk p l):zaV (znL p) l=some (wlS p l):=by
 unfold zaV;rw [zr1 hp h (lg:=fun x9=>idx (znL p).2.1 x9.1) (fun m hm=>zr2 hp hm)]; rfl
theorem zhW {i:Int} (hi:0≤i∧i<p.2.1.length):zaz p i=some (zgu p i):=zpF hi (hp.ix hi) (hp.spots hi).1
theorem zuT {l:List zR} (h:zhk p l):zbM p l=some (wlS p l):=by
 unfold zbM;rw [zr1 hp h (lg:=fun x9=>zaz p x9.1) (fun m hm=>zhW hp hm)]; rfl
end
theorem zie (p:Plan) {l:List zR} (hl:l.length≤9223372036854775807):zbK p l=some (if zaG p&&zjR p l then (wlS p l,0) else (0,2)):=by
 unfold zbK;rw [zrV];cases hv:zaG p with
 | false=>rfl
 | true =>
  have hp:=zdg hv;simp only [if_true,Option.bind_some,Bool.not_true,cond_false,zxg hp hl,Bool.true_and];cases hw:zjR p l with
  | false=>rfl
  | true =>
   simp only [Bool.not_true,cond_false,zzj hp (zhV hw),if_true,Option.bind_some]
theorem zr3 (p:Plan) (i:Int):zbH p i=some (if zaG p&&zpS p (i,false,()) then (zgu p i,0) else (0,2)):=by
 unfold zbH;rw [zrV];cases hv:zaG p with
 | false=>rfl
 | true =>
  have hp:=zdg hv;simp only [if_true,Option.bind_some,Bool.not_true,cond_false,zuS hp,Bool.true_and];cases hw:zpS p (i,false,()) with
  | false=>rfl
  | true =>
   have hi:=ziC.1 hw;simp only [Bool.not_true,cond_false,zr2 hp hi,if_true,Option.bind_some]
end Go.Ai.Sx

/- Motion: looking for a place in a rising row. -/
namespace Go.Ai.Sx
theorem zub (a b:Int):zaU a b=some (decide (a<b)):=by
 unfold zaU;simp only [zce,Option.bind_some,bne_self_eq_false,cond_false]
theorem zuc {a b:Int} (h:0≤a+b∧a+b<4611686018427387904):zlI .u64 (IntKind.u64.wrap (w64 (a+b))) 1=some ((a+b)/2)∧w64 ((a+b)/2)=(a+b)/2:=by
 have e1:w64 (a+b)=a+b:=zm (by omega) (by omega);have e2:IntKind.u64.wrap (a+b)=a+b:=by simp only [IntKind.wrap,IntKind.bits,IntKind.signed]; simp; omega
 rw [e1,e2];unfold zlI;rw [if_pos (by omega)];refine ⟨?_,zm (by omega) (by omega)⟩;congr 1;simp [IntKind.bits];rw [Int.fdiv_eq_ediv_of_nonneg _ (by omega)]
def Rising (xs:List Int):Prop:=∀ i j,i<j->j<xs.length->xs.getD i 0<xs.getD j 0
theorem bsearch {xs:List Int} (hr:Rising xs) (hl:xs.length≤1000000) (t:Int):∃ (i:Nat) (b:Bool),zM xs t=some ((i:Int),b)∧i≤xs.length∧(∀ j,j<i->xs.getD j 0<t)∧∀ j,i≤j->j<xs.length->t≤xs.getD j 0:=by
  have hT:Tot (fun r:Int=>∃ i:Nat,r=(i:Int)∧i≤xs.length∧(∀ j,j<i->xs.getD j 0<t)∧∀ j,i≤j->j<xs.length->t≤xs.getD j 0) (iter (σ:=(Int×Int)) (τ:=(Int)) (fun s6 =>
cond ((decide (s6.1<s6.2))) (Option.bind (zlI .u64 ((IntKind.u64.wrap ((w64 (s6.1+s6.2))))) 1) fun x9 =>
Option.bind (idx xs ((w64 x9))) fun x10 =>
Option.bind (zaU x10 t) fun y11 =>
cond (y11) (some (.inl (((w64 ((w64 x9)+1)),s6.2)))) (some (.inl ((s6.1,(w64 x9)))))) (some (.inr s6.1))) big ((0,(zz xs)))):=by
    refine Tot.iter (fun s:Int×Int=>∃ lo hi:Nat,s=((lo:Int),(hi:Int))∧lo≤hi∧hi≤xs.length∧(∀ j,j<lo->xs.getD j 0<t)∧∀ j,hi≤j->j<xs.length->t≤xs.getD j 0) _ (fun s=>(s.2-s.1).toNat) ⟨0,xs.length,rfl,by omega,by omega,fun j hj=>by omega,fun j h1 h2=>by omega⟩ (by simp only [zE,big]; omega) ?_
    rintro s ⟨lo,hi,rfl,h1,h2,h3,h4⟩
    simp only [];by_cases hlt:lo<hi
    · obtain ⟨e1,e2⟩:=zuc (a:=(lo:Int)) (b:=(hi:Int)) ⟨by omega,by omega⟩;obtain ⟨m,hm⟩:∃ m:Nat,((lo:Int)+hi)/2=(m:Int):=⟨(((lo:Int)+hi)/2).toNat,by omega⟩;rw [decide_eq_true (show (lo:Int)<hi by omega),cond_true,e1,Option.bind_some,e2,hm,zI 0 (show m<xs.length by omega),Option.bind_some,zub,Option.bind_some];by_cases hc:xs.getD m 0<t
      · rw [decide_eq_true hc,cond_true,zN (by omega)];refine Tot.some ⟨⟨m+1,hi,rfl,by omega,h2,fun j hj=>?_,h4⟩,by simp only []; omega⟩;by_cases e:j=m
        · rw [e]; exact hc
        · have:=hr j m (by omega) (by omega); omega
      · rw [decide_eq_false hc,cond_false];refine Tot.some ⟨⟨lo,m,rfl,by omega,by omega,h3,fun j hj hjl=>?_⟩,by simp only []; omega⟩;by_cases e:j=m
        · rw [e]; omega
        · have:=hr m j (by omega) hjl; omega
    · have:lo=hi:=by omega
      subst this;rw [decide_eq_false (by omega),cond_false];exact Tot.some ⟨lo,rfl,by omega,h3,h4⟩
  obtain ⟨r,h1,i,rfl,h2,h3,h4⟩:=hT;have hb:∃ b:Bool,zM xs t=some ((i:Int),b):=by
    unfold zM;rw [h1,Option.bind_some];by_cases hlt:i<xs.length
    · rw [zY hlt,cond_true,zI 0 hlt,Option.bind_some];cases (xs.getD i 0==t) with
      | true=>exact ⟨true,rfl⟩
      | false =>
        simp only [cond_false,zbZ,Option.bind_some,bne_self_eq_false];exact ⟨false,rfl⟩
    · rw [decide_eq_false (show ¬ (i:Int)<zz xs by rw [zE]; omega)];exact ⟨false,rfl⟩
  obtain ⟨b,hb⟩:=hb;exact ⟨i,b,hb,h2,h3,h4⟩
section
variable (p:Plan) (way:List zR)
def mvl (i:Nat):Int:=zgu p (way.getD i M0).1
def za8 (i:Nat):Int:=zhn (mvl p way) 0 i
def zgv (i:Nat):Rail:=rl0 p (way.getD i M0).1
def zjY (i:Nat):Int:=(zgv p way i).2.2.2.1
def zf4 (i:Nat):Int:=if (way.getD i M0).2.1 then -(zgv p way i).2.2.2.2.1 else (zgv p way i).2.2.2.2.1
def zfk:List Int:=rlN way.length fun i=>za8 p way (i+1)
def zmN:List Int:=rlN way.length (zjY p way)
def zmO:List Int:=rlN way.length (zf4 p way)
end
theorem zmP (f:Nat->Int):∀ (k a:Nat),zhn f a (k+1)=zhn f a k+f (a+k)
 | 0,a=>by simp [zhn]
 | k+1,a=>by
  rw [zhn,zmP f k (a+1),zhn];rw [show a+1+k=a+(k+1) by omega];omega
theorem zgi (p:Plan) (way:List zR) (i:Nat):za8 p way (i+1)=za8 p way i+mvl p way i:=by
 unfold za8;rw [zmP,Nat.zero_add]
theorem zfB {A:Type} (n:Nat) (f:Nat->A):(rlN n f).length=n:=by unfold rlN; simp
theorem zhX {A:Type} {n:Nat} {f:Nat->A} {i:Nat} (d:A) (h:i<n):(rlN n f).getD i d=f i:=by
 unfold rlN;simp [List.getD,h]
section
variable {p:Plan} {way:List zR} (hp:zic p) (hw:zhk p way)
include hp hw
theorem zr4 {i:Nat} (hi:i<way.length):1≤mvl p way i∧mvl p way i≤31000000:=zlz hp (hw.m i hi)
theorem zkG {i j:Nat} (h:i<j) (hj:j≤way.length):za8 p way i<za8 p way j:=by
 induction j with
 | zero=>omega
 | succ j ih =>
  have h1:=zr4 hp hw (i:=j) (by omega);rw [zgi];by_cases e:i=j
  ·subst e; omega
  ·have:=ih (by omega) (by omega); omega
theorem zgj {i:Nat} (hi:i≤way.length):0≤za8 p way i∧za8 p way i≤62000000000:=by
 have h1:=zjG (f:=mvl p way) (B:=31000000) i 0 (fun j _ hj=>by have:=zr4 hp hw (i:=j) (by omega); omega);have:=hw.n;unfold za8;omega
theorem zjL:Rising (zfk p way):=by
 intro i j h hj;unfold zfk at *
 rw [zfB] at hj;rw [zhX 0 (by omega),zhX 0 hj];exact zkG hp hw (by omega) (by omega)
theorem zlA {i:Nat} (hi:i<way.length):(1≤zjY p way i∧zjY p way i≤50000)∧(-120≤zf4 p way i∧zf4 p way i≤120)∧idx p.2.1 (way.getD i M0).1=some (zgv p way i):=by
 have hm:=hw.m i hi;have h1:=hp.rail hm;unfold zhg zlt at h1;simp only [Bool.and_eq_true,zaH] at h1;obtain ⟨⟨_,_,_,h2,h3⟩,_⟩:=h1;refine ⟨h2, ?_,zdf hm.1 hm.2⟩;unfold zf4 zgv;split<;>omega
end
def ixF (f:Nat->Bool):Nat->Nat->Nat
 | 0,i=>i
 | k+1,i=>if f i then i else ixF f k (i+1)
theorem zuU {f:Nat->Bool}:∀ {k i r:Nat},i≤r->r≤i+k->(∀ j,i≤j->j<r->f j=false)->(r<i+k->f r=true)->ixF f k i=r
 | 0,i,r,h1,h2,_,_=>by unfold ixF; omega
 | k+1,i,r,h1,h2,h3,h4=>by
  unfold ixF;by_cases e:i=r
  ·subst e;rw [if_pos (h4 (by omega))]
  ·rw [if_neg (by rw [h3 i (Nat.le_refl i) (by omega)]; simp)];exact zuU (by omega) (by omega) (fun j h5 h6=>h3 j (by omega) h6) (fun h5=>h4 (by omega))
def zzk (p:Plan) (way:List zR) (f:Int):Nat:=ixF (fun i=>decide (f<za8 p way (i+1))) (way.length-1) 0
def zel (p:Plan) (way:List zR) (f:Int):Int:=zf4 p way (zzk p way f)
theorem zr5 {p:Plan} {way:List zR} (h:1≤way.length) (f:Int):zzk p way f<way.length:=by
 have key:∀ (g:Nat->Bool) (k i:Nat),ixF g k i≤i+k:=by
  intro g k;induction k with
  | zero=>intro i; exact Nat.le_refl _
  | succ k ih =>
   intro i;unfold ixF;split
   ·omega
   ·have:=ih (i+1); omega
 have:=key (fun i=>decide (f<za8 p way (i+1))) (way.length-1) 0;unfold zzk;omega
def ziD (p:Plan) (way:List zR) (t:Train) (st:Int) (stops:List Int):zav:=((t,st,()),way,zfk p way,zmN p way,zmO p way,stops,())
section
variable {p:Plan} {way:List zR} {t:Train} {st:Int} {stops:List Int} {x:zf} (hp:zic p) (hw:zhk p way) (ht:zjQ t) (hx:zor t x)
include hp hw ht hx
theorem zmQ:0≤zD t x∧zD t x≤4000000000000000000:=by
 have hm:=ht.m;have h:=hx.w;unfold zD;have h1:0≤x.2.1/(10*t.1):=Int.ediv_nonneg h.1 (by omega);have h2:x.2.1/(10*t.1)≤x.2.1:=Int.ediv_le_self _ h.1;omega
theorem zud:zX (ziD p way t st stops) x=some (zel p way (zD t x)):=by
 have hn:=hw.n;have hpl:=zmQ hp hw ht hx;unfold zX;show Option.bind (zS (t,st,()) x) _=_;rw [(zf1 ht hx st).1,Option.bind_some];have e1:x.2.1/(10*t.1)=zD t x:=rfl;rw [e1,zm (n:=zD t x+1) (by omega) (by omega)];show Option.bind (zM (zfk p way) (zD t x+1)) _=_;have hel:(zfk p way).length=way.length:=by unfold zfk; rw [zfB]
 obtain ⟨i,b,h1,h2,h3,h4⟩:=bsearch (zjL hp hw) (by omega) (zD t x+1);rw [h1,Option.bind_some];show Option.bind (idx (zmO p way) (min (i:Int) (w64 (zz (zmO p way)-1)))) _=_;have hsl:(zmO p way).length=way.length:=by unfold zmO; rw [zfB]
 rw [zE,hsl,zm (by omega) (by omega)];have hge:∀ j,j<way.length->(zfk p way).getD j 0=za8 p way (j+1):=fun j hj=>by unfold zfk; rw [zhX 0 hj]
 have hix:zzk p way (zD t x)=min i (way.length-1):=by
  unfold zzk;refine zuU (by omega) (by omega) (fun j _ hj=>?_) (fun hlt=>?_)
  ·have:=h3 j (by omega);rw [hge j (by omega)] at this;exact decide_eq_false (by omega)
  ·have:=h4 (min i (way.length-1)) (by omega) (by omega);rw [hge _ (by omega)] at this;exact decide_eq_true (by omega)
 have hmin:min (i:Int) ((way.length:Int)-1)=((min i (way.length-1):Nat):Int):=by omega
 rw [hmin,zI 0 (by omega),Option.bind_some,← hix];unfold zmO zel;rw [zhX 0 (zr5 hn.1 _)]
theorem zgk (f:Int):-120≤zel p way f∧zel p way f≤120:=(zlA hp hw (zr5 hw.n.1 f)).2.1
end
end Go.Ai.Sx

/- Motion: a run's limit,and the reference's slope and limit. -/
namespace Go.Ai.Sx
def zmR (g:Nat->Bool) (v:Nat->Int):Nat->Nat->Int->Int
 | 0,_,b=>b
 | k+1,i,b=>zmR g v k (i+1) (if g i then min b (v i) else b)
theorem ziE (g:Nat->Bool) (v:Nat->Int) (l:Nat):∀ (k i:Nat) (b:Int),zmR g v (k+l) i b=zmR g v l (i+k) (zmR g v k i b)
 | 0,i,b=>by rw [Nat.zero_add]; rfl
 | k+1,i,b=>by
  rw [show k+1+l=(k+l)+1 by omega,zmR,ziE g v l k (i+1),zmR,show i+1+k=i+(k+1) by omega]
theorem zlB {g:Nat->Bool} {v:Nat->Int}:∀ (k i:Nat) (b:Int),(∀ j,i≤j->j<i+k->g j=false)->zmR g v k i b=b
 | 0,_,_,_=>rfl
 | k+1,i,b,h=>by
  rw [zmR,h i (Nat.le_refl i) (by omega)];exact zlB k (i+1) b fun j h1 h2=>h j (by omega) (by omega)
def ovB (p:Plan) (way:List zR) (L f:Int) (i:Nat):Bool:=decide (f-L<za8 p way (i+1))&&(decide (za8 p way i<f)||decide (i=0))
def zlJ (p:Plan) (way:List zR) (t:Train) (f:Int):Int:=zmR (ovB p way t.2.1 f) (zjY p way) way.length 0 t.2.2.1
section
variable {p:Plan} {way:List zR} {t:Train} {st:Int} {stops:List Int} {x:zf} (hp:zic p) (hw:zhk p way) (ht:zjQ t)
include hp hw ht
theorem zue {i j:Nat} (h:i≤j) (hj:j≤way.length):za8 p way i≤za8 p way j:=by
 by_cases e:i=j
 ·subst e; omega
 ·have:=zkG hp hw (i:=i) (j:=j) (by omega) hj; omega
theorem zuf (hx:zor t x):zb1 (ziD p way t st stops) x=some (zlJ p way t (zD t x)):=by
  have hn:=hw.n;have hl:=ht.len;have hpl:=zmQ hp hw ht hx;unfold zb1;show Option.bind (zS (t,st,()) x) _=_;rw [(zf1 ht hx st).1,Option.bind_some];have e1:x.2.1/(10*t.1)=zD t x:=rfl;rw [e1];show Option.bind (zM (zfk p way) (w64 (w64 (zD t x-t.2.1)+1))) _=_;rw [zm (n:=zD t x-t.2.1) (by omega) (by omega),zm (n:=zD t x-t.2.1+1) (by omega) (by omega)];have hel:(zfk p way).length=way.length:=by unfold zfk; rw [zfB]
  have hll:(zmN p way).length=way.length:=by unfold zmN; rw [zfB]
  have hge:∀ j,j<way.length->(zfk p way).getD j 0=za8 p way (j+1):=fun j hj=>by unfold zfk; rw [zhX 0 hj]
  have hgl:∀ j,j<way.length->(zmN p way).getD j 0=zjY p way j:=fun j hj=>by unfold zmN; rw [zhX 0 hj]
  obtain ⟨i0,b,h1,h2,h3,h4⟩:=bsearch (zjL hp hw) (by omega) (zD t x-t.2.1+1);rw [h1,Option.bind_some];have key:∀ (k i:Nat) (v:Int),i+k=way.length->i0≤i->(i=i0∨za8 p way i<zD t x) ->
      Lp (fun s8:Int×Int =>
cond ((decide (s8.2<(zz (zfk p way))))) (Option.bind (idx (zmN p way) s8.2) fun x11 =>
Option.bind (idx (zfk p way) s8.2) fun x12 =>
cond ((decide (x12≥zD t x))) (some (.inr (((min s8.1 x11))))) (some (.inl (((min s8.1 x11),(w64 (s8.2+1))))))) (some (.inr s8.1))) k (v,(i:Int)) (zmR (ovB p way t.2.1 (zD t x)) (zjY p way) k i v):=by
    intro k;induction k with
    | zero =>
      intro i v hi _ _;refine Lp.done ?_;have:i=(zfk p way).length:=by omega
      subst this;simp only [z7,cond_false];rfl
    | succ k ih =>
      intro i v hi hle hor;have hil:i<way.length:=by omega
      have hov:ovB p way t.2.1 (zD t x) i=true:=by
        unfold ovB;have h5:=h4 i hle (by omega);rw [hge i hil] at h5;rw [decide_eq_true (by omega)];have h6:i=0∨za8 p way i<zD t x:=by
          rcases hor with rfl | h
          · by_cases e:i=0
            · exact .inl e
            · right;have h7:=h3 (i-1) (by omega);rw [hge (i-1) (by omega),show i-1+1=i by omega] at h7;omega
          · exact .inr h
        simp only [Bool.true_and,Bool.or_eq_true,decide_eq_true_eq];omega
      rw [zmR,if_pos hov];by_cases hc:za8 p way (i+1)≥zD t x
      · rw [zlB k (i+1) _ (fun j h5 h6=>by
          have h7:=zue hp hw ht (i:=i+1) (j:=j) h5 (by omega);unfold ovB;rw [decide_eq_false (show ¬ za8 p way j<zD t x by omega),decide_eq_false (show ¬ j=0 by omega)];simp)]
        refine Lp.done ?_;simp only [zY (show i<(zfk p way).length by omega),cond_true];rw [zI 0 (by omega),Option.bind_some,zI 0 (by omega),Option.bind_some,hge i hil,hgl i hil,decide_eq_true hc,cond_true]
      · refine Lp.step ?_ (ih (i+1) _ (by omega) (by omega) (.inr (by omega)));simp only [zY (show i<(zfk p way).length by omega),cond_true];rw [zI 0 (by omega),Option.bind_some,zI 0 (by omega),Option.bind_some,hge i hil,hgl i hil,decide_eq_false hc,cond_false,zN (by omega)]
  have hL:=key (way.length-i0) i0 t.2.2.1 (by omega) (Nat.le_refl _) (.inl rfl);have hR:zmR (ovB p way t.2.1 (zD t x)) (zjY p way) (way.length-i0) i0 t.2.2.1=zlJ p way t (zD t x):=by
    unfold zlJ;have hk:way.length=i0+(way.length-i0):=by omega
    rw [hk,ziE,zlB i0 0 _ (fun j _ h6=>by
      have h7:=h3 j (by omega);rw [hge j (by omega)] at h7;unfold ovB;rw [decide_eq_false (by omega)];rfl),Nat.zero_add,← hk]
  rw [hR] at hL;have hB:=hL.big (by simp only [big]; omega);exact congrArg (fun o=>Option.bind o fun t14=>some t14) hB
theorem zfl {stop:Int} {f:Int} (hf:0≤f∧f≤4000000000000000000):zaX (p,way,t,st,stop,()) f=some (zel p way f):=by
  have hn:=hw.n;unfold zaX;have key:∀ (k i:Nat),i+k+1=way.length ->
      Lp (fun s30:Int×Int =>
cond ((decide (s30.2<(zz way)))) (Option.bind (idx way s30.2) fun x35 =>
Option.bind (zaz p x35.1) fun y36 =>
cond ((decide (f<(w64 (s30.1+y36))))) (Option.bind (idx way s30.2) fun x40 =>
cond (x40.2.1) (Option.bind (idx way s30.2) fun x44 =>
Option.bind (idx p.2.1 x44.1) fun x45 =>
some (.inr ((.inr ((w64 (0-x45.2.2.2.2.1))))))) (Option.bind (idx way s30.2) fun x48 =>
Option.bind (idx p.2.1 x48.1) fun x49 =>
some (.inr ((.inr x49.2.2.2.2.1))))) (cond ((s30.2==(w64 ((zz way)-1)))) (Option.bind (idx way s30.2) fun x51 =>
cond (x51.2.1) (Option.bind (idx way s30.2) fun x55 =>
Option.bind (idx p.2.1 x55.1) fun x56 =>
some (.inr ((.inr ((w64 (0-x56.2.2.2.2.1))))))) (Option.bind (idx way s30.2) fun x59 =>
Option.bind (idx p.2.1 x59.1) fun x60 =>
some (.inr ((.inr x60.2.2.2.2.1))))) (some (.inl (((w64 (s30.1+y36)),(w64 (s30.2+1)))))))) (some (.inr ((.inl (())))))) k (za8 p way i,(i:Int)) (.inr (zf4 p way (ixF (fun i=>decide (f<za8 p way (i+1))) k i)):Unit⊕Int):=by
    intro k;induction k with
    | zero =>
      intro i hi;have hil:i<way.length:=by omega
      obtain ⟨_,hs,hr⟩:=zlA hp hw hil;refine Lp.done ?_;simp only [zY hil,cond_true];have hlast:((i:Int)==w64 (zz way-1))=true:=by
        rw [zE,zm (by omega) (by omega)]; simp; omega
      rw [zI M0 hil,Option.bind_some,zhW hp (hw.m i hil),Option.bind_some];simp only [Option.bind_some,hr,hlast,cond_true];have hv:(cond (way.getD i M0).2.1 (some (Sum.inr (Sum.inr (w64 (0-(zgv p way i).2.2.2.2.1)))):Option ((Int×Int)⊕(Unit⊕Int))) (some (Sum.inr (Sum.inr (zgv p way i).2.2.2.2.1))))=some (Sum.inr (Sum.inr (zf4 p way i))):=by
        unfold zf4 at *
        cases h:(way.getD i M0).2.1 with
        | true =>
          rw [h] at hs;simp only [if_true] at hs;simp only [cond_true,if_true];rw [zm (by omega) (by omega),Int.zero_sub]
        | false=>rfl
      rw [hv];cases decide (f<w64 (za8 p way i+zgu p (way.getD i M0).1))<;>rfl
    | succ k ih =>
      intro i hi;have hil:i<way.length:=by omega
      obtain ⟨_,hs,hr⟩:=zlA hp hw hil;have hb:=zgj hp hw (i:=i) (by omega);have hb1:=zgj hp hw (i:=i+1) (by omega);have hsx:=zgi p way i;have hml:mvl p way i=zgu p (way.getD i M0).1:=rfl;have hlast:((i:Int)==w64 (zz way-1))=false:=by
        rw [zE,zm (by omega) (by omega)]; simp; omega
      have hwe:w64 (za8 p way i+zgu p (way.getD i M0).1)=za8 p way (i+1):=by
        rw [← hml,← hsx,zm (by omega) (by omega)]
      unfold ixF;by_cases hc:f<za8 p way (i+1)
      · rw [if_pos (decide_eq_true hc)];refine Lp.done ?_;simp only [zY hil,cond_true];rw [zI M0 hil,Option.bind_some,zhW hp (hw.m i hil),Option.bind_some];simp only [Option.bind_some,hr,hwe,decide_eq_true hc,cond_true];unfold zf4 at *
        cases h:(way.getD i M0).2.1 with
        | true =>
          rw [h] at hs;simp only [if_true] at hs;simp only [cond_true,if_true];rw [zm (by omega) (by omega),Int.zero_sub]
        | false=>rfl
      · rw [if_neg (by rw [decide_eq_true_eq]; exact hc)];refine Lp.step ?_ (ih (i+1) (by omega));simp only [zY hil,cond_true];rw [zI M0 hil,Option.bind_some,zhW hp (hw.m i hil),Option.bind_some];simp only [hlast,hwe,decide_eq_false hc,cond_false,zN (show i<9223372036854775807 by omega)]
  have hL:=(key (way.length-1) 0 (by omega)).big (by simp only [big]; omega);have h0:za8 p way 0=0:=rfl;rw [h0,show ((0:Nat):Int)=0 from rfl] at hL;exact congrArg (fun o=>Option.bind o fun t61:Unit⊕Int=>alt (fun _=>some 0) (fun b64=>some b64) t61) hL
end
end Go.Ai.Sx

/- Motion: the reference's limit over the parts that a train covers. -/
namespace Go.Ai.Sx
section
variable {p:Plan} {way:List zR} {t:Train} {st:Int} {stops:List Int} {x:zf} (hp:zic p) (hw:zhk p way) (ht:zjQ t)
include hp hw ht
def znO (p:Plan) (way:List zR) (t:Train) (f:Int) (k:Nat) (C:List Cover):Prop:=C.length≤k∧(∀ c∈C,0≤c.1∧c.1<(p.2.1.length:Int))∧∀ b:Int,C.foldl (fun b c=>min b (rl0 p c.1).2.2.2.1) b=zmR (ovB p way t.2.1 f) (zjY p way) k 0 b
omit hp hw ht in
theorem zug {f:Int} {k:Nat} {C:List Cover} (h:znO p way t f k C) (hg:ovB p way t.2.1 f k=false):znO p way t f (k+1) C:=by
 obtain ⟨h1,h2,h3⟩:=h;refine ⟨by omega,h2,fun b=>?_⟩;rw [h3,ziE _ _ 1 k 0,zmR,zmR,Nat.zero_add,hg];rfl
omit hp ht in
theorem zr6 {f:Int} {k:Nat} {C:List Cover} (h:znO p way t f k C) (hk:k<way.length) (hg:ovB p way t.2.1 f k=true) (a b:Int):znO p way t f (k+1) (C++[((way.getD k M0).1,a,b,())]):=by
 obtain ⟨h1,h2,h3⟩:=h;refine ⟨by simp; omega,fun c hc=>?_,fun b=>?_⟩
 ·rw [List.mem_append,List.mem_singleton] at hc;rcases hc with hc | rfl
  ·exact h2 c hc
  ·exact hw.m k hk
 rw [List.foldl_append,h3,ziE _ _ 1 k 0,zmR,zmR,Nat.zero_add,if_pos hg];rfl
theorem zr7 {f:Int} (hf:1≤f∧f≤4000000000000000000):∃ C,zdb p way f t.2.1=some C∧znO p way t f way.length C:=by
  have hn:=hw.n;have hl:=ht.len;unfold zdb;have hT:=Tot.iter (σ:=(List Cover×Int×Int)) (τ:=List Cover) (f:=fun s15 =>
cond ((decide (s15.2.2<(zz way)))) (Option.bind (idx way s15.2.2) fun x20 =>
Option.bind (zaz p x20.1) fun y21 =>
cond ((decide ((w64 ((max ((w64 (f-t.2.1))) s15.2.1)-s15.2.1))≥(w64 ((min f ((w64 (s15.2.1+y21))))-s15.2.1))))) (some (.inl ((s15.1,(w64 (s15.2.1+y21)),(w64 (s15.2.2+1)))))) (Option.bind (idx way s15.2.2) fun x23 =>
cond (x23.2.1) (Option.bind (idx way s15.2.2) fun x25 =>
Option.bind (zdJ 24 s15.1 ([((x25.1,(w64 (y21-(w64 ((min f ((w64 (s15.2.1+y21))))-s15.2.1)))),(w64 (y21-(w64 ((max ((w64 (f-t.2.1))) s15.2.1)-s15.2.1)))),()):Cover)])) fun x26 =>
some (.inl ((x26,(w64 (s15.2.1+y21)),(w64 (s15.2.2+1)))))) (Option.bind (idx way s15.2.2) fun x28 =>
Option.bind (zdJ 24 s15.1 ([((x28.1,(w64 ((max ((w64 (f-t.2.1))) s15.2.1)-s15.2.1)),(w64 ((min f ((w64 (s15.2.1+y21))))-s15.2.1)),()):Cover)])) fun x29 =>
some (.inl ((x29,(w64 (s15.2.1+y21)),(w64 (s15.2.2+1)))))))) (some (.inr s15.1)))
    (fun s=>∃ (i:Nat) (C:List Cover),s=(C,za8 p way i,(i:Int))∧i≤way.length∧znO p way t f i C) (fun C=>znO p way t f way.length C) (fun s=>way.length-s.2.2.toNat) (n:=big) (s:=([],0,0)) ⟨0,[],rfl,by omega,by simp,by simp,fun b=>rfl⟩ (by simp only [big]; omega) (by
      rintro s ⟨i,C,rfl,hi,hC⟩
      simp only [];by_cases hil:i<way.length
      · have hb:=zgj hp hw (i:=i) (by omega);have hb1:=zgj hp hw (i:=i+1) (by omega);have hsx:=zgi p way i;have hml:mvl p way i=zgu p (way.getD i M0).1:=rfl;have hmb:=zr4 hp hw hil;have hwe:w64 (za8 p way i+zgu p (way.getD i M0).1)=za8 p way (i+1):=by
          rw [← hml,← hsx,zm (by omega) (by omega)]
        rw [zY hil,cond_true,zI M0 hil,Option.bind_some,zhW hp (hw.m i hil),Option.bind_some,hwe];rw [zm (n:=f-t.2.1) (by omega) (by omega),zm (n:=max (f-t.2.1) (za8 p way i)-za8 p way i) (by omega) (by omega),zm (n:=min f (za8 p way (i+1))-za8 p way i) (by omega) (by omega)];have hov:ovB p way t.2.1 f i=!decide (max (f-t.2.1) (za8 p way i)-za8 p way i≥min f (za8 p way (i+1))-za8 p way i):=by
          unfold ovB;have h0:i=0->za8 p way i=0:=fun h=>by subst h; rfl
          by_cases e:max (f-t.2.1) (za8 p way i)-za8 p way i≥min f (za8 p way (i+1))-za8 p way i
          · rw [decide_eq_true e];by_cases e1:f-t.2.1<za8 p way (i+1)
            · rw [decide_eq_false (show ¬ za8 p way i<f by omega),decide_eq_false (show ¬ i=0 by omega)]; simp
            · rw [decide_eq_false e1]; rfl
          · rw [decide_eq_false e,decide_eq_true (show f-t.2.1<za8 p way (i+1) by omega),decide_eq_true (show za8 p way i<f by omega)]; rfl
        by_cases e:max (f-t.2.1) (za8 p way i)-za8 p way i≥min f (za8 p way (i+1))-za8 p way i
        · rw [decide_eq_true e] at hov ⊢;rw [cond_true,zN (by omega)];exact Tot.some ⟨⟨i+1,C,rfl,by omega,zug hC hov⟩,by simp only [Int.toNat_natCast]; omega⟩
        · rw [decide_eq_false e] at hov ⊢;have hcl:=hC.1;rw [cond_false,Option.bind_some];have happ:∀ a b:Int,zdJ 24 C [((way.getD i M0).1,a,b,())]=some (C++[((way.getD i M0).1,a,b,())]):=fun a b=>zbl (by simp; omega);simp only [Option.bind_some,happ,zN (show i<9223372036854775807 by omega)];cases (way.getD i M0).2.1 with
          | true=>exact Tot.some ⟨⟨i+1,_,rfl,by omega,zr6 hw hC hil hov _ _⟩,by simp only [Int.toNat_natCast]; omega⟩
          | false=>exact Tot.some ⟨⟨i+1,_,rfl,by omega,zr6 hw hC hil hov _ _⟩,by simp only [Int.toNat_natCast]; omega⟩
      · have:i=way.length:=by omega
        subst this;rw [z7,cond_false];exact Tot.some hC)
  obtain ⟨C,h1,h2⟩:=hT;exact ⟨C,by rw [h1]; rfl,h2⟩
theorem zeJ {f:Int} (hf:1≤f∧f≤4000000000000000000):zc0 p way t f=some (zlJ p way t f):=by
  have hn:=hw.n;obtain ⟨C,h1,h2,h3,h4⟩:=zr7 hp hw ht hf;unfold zc0;rw [h1,Option.bind_some];have hL:=zcj (f:=fun s8:Int×Int =>
cond ((decide (s8.2<(zz C)))) (Option.bind (idx C s8.2) fun x13 =>
Option.bind (idx p.2.1 x13.1) fun x14 =>
some (.inl (((min s8.1 x14.2.2.2.1),(w64 (s8.2+1)))))) (some (.inr s8.1))) C (fun i b=>(b,(i:Int))) (fun _ b c=>(.inl (min b (rl0 p c.1).2.2.2.1):Int⊕Int)) (fun b=>b) (fun _ _=>True) t.2.2.1 (s0:=(t.2.2.1,0)) rfl (by omega) trivial (fun i h b _=>by
      refine ⟨?_,fun _ _=>trivial⟩;simp only [];rw [zY h,cond_true,ze3,List.getElem?_eq_getElem h,Option.bind_some];have hc:=h3 C[i] (List.getElem_mem h);have hr:idx p.2.1 C[i].1=some (rl0 p C[i].1):=zdf hc.1 hc.2;rw [hr,Option.bind_some,zN (by omega)]) (fun b _=>by simp only [z7,cond_false])
  rw [hL,zex,h4];rfl
end
end Go.Ai.Sx

/- Motion: what is safe. -/
namespace Go.Ai.Sx
section
variable (p:Plan) (way:List zR) (t:Train) (st stop:Int)
def slS (y:zf):Int:=zel p way (zD t y)
def zfm (x:zf):Bool:=decide (zD t x≤stop)&&decide (x.1/t.1≤zlJ p way t (zD t x))
def nxS (x:zf):zbF×Bool:=zdG t st x (-4) (slS p way t x)
def zpJ:Nat->zf->Bool
 | 0,x=>x.1==0
 | n+1,x=>x.1==0||((nxS p way t st x).2&&(zfm p way t stop (nxS p way t st x).1.1&&zpJ n (nxS p way t st x).1.1))
def zlC (x:zf):Bool:=zfm p way t stop x&&zpJ p way t st stop 36000 x
end
section
variable {p:Plan} {way:List zR} {t:Train} {st:Int} {stops:List Int} {x:zf} (hp:zic p) (hw:zhk p way) (ht:zjQ t) (hst:0≤st∧st<t.2.2.2.2.2.2.2.2.2.1.length)
include hp hw ht hst
theorem zr8 (hx:zor t x) (stop:Int):zbp (ziD p way t st stops) x stop=some (zfm p way t stop x):=by
 have hf:znH t st 0 0:=⟨hst,by omega,by omega⟩;unfold zbp;show (Option.bind (Option.bind (zS (t,st,()) x) fun y10=>cond ((decide (y10≤stop))) (Option.bind (zaT (t,st,()) x) _) _) _)=_;rw [(zf1 ht hx st).1,Option.bind_some,(zhS ht hf hx).1,Option.bind_some,zuf hp hw ht hx,Option.bind_some];unfold zfm zD;cases decide (x.2.1/(10*t.1)≤stop)<;>rfl
theorem zxh (hx:0≤x.1∧x.1≤25000*t.1) (hwx:0≤x.2.1∧x.2.1≤1000000000000000000) (stop:Int):zbL (ziD p way t st stops) x stop=some (zlC p way t st stop x):=by
  unfold zbL;rw [zr8 hp hw ht hst ⟨hx,hwx.1,by omega⟩ stop,Option.bind_some];unfold zlC;cases hfi:zfm p way t stop x with
  | false=>rfl
  | true =>
    have hm:zbD (ziD p way t st stops).1 x (fun y=>zX (ziD p way t st stops) y)=some (x,(t,st,()),fun y=>zX (ziD p way t st stops) y):=rfl;simp only [Bool.not_true,cond_false,hm,Option.bind_some,Bool.true_and];have hS:=znI (σ:=Int×Int) (τ:=Int×Int) (t:=t) (st:=st) (sl:=slS p way t) (f:=fun y=>zX (ziD p way t st stops) y)
      (step:=fun s16 x9=>Option.bind (zbp (ziD p way t st stops) x9 stop) fun y19 =>
cond ((!y19)) (some (.inr ((s16.1,s16.2)))) (some (.inl ((x9.1,x9.2.1)))))
      (g:=fun s y=>if zfm p way t stop y then .inl (y.1,y.2.1) else .inr (s.1,s.2)) (W:=4000000000000000000) ht hst (by omega)
      (fun y h1 h2=>⟨zud hp hw ht ⟨h1,h2⟩,zgk hp hw ht ⟨h1,h2⟩ _⟩)
      (fun s y h1 h2=>by
        rw [zr8 hp hw ht hst ⟨h1,h2⟩ stop,Option.bind_some];cases zfm p way t stop y<;>rfl) (x.1,x.2.1) x hx ⟨hwx.1,by omega⟩
    obtain ⟨z,hz⟩:=hS;rw [hz,Option.bind_some];have key:∀ (n:Nat) (x:zf),(alt (fun b23:Int×Int=>some ((b23.1==0))) (fun _:Int×Int=>some false) (zlm (fun (s:Int×Int) (y:zf)=>if zfm p way t stop y then .inl (y.1,y.2.1) else .inr (s.1,s.2)) (x.1,x.2.1) (brk t st (slS p way t) n x)):Option Bool)=some (zpJ p way t st stop n x):=by
      intro n;induction n with
      | zero=>intro x; rfl
      | succ n ih =>
        intro x;unfold brk zpJ;by_cases h0:x.1=0
        · rw [if_pos h0,show (x.1==0)=true by simpa using h0];simp only [zlm,zbx,h0]; rfl
        · rw [if_neg h0,show (x.1==0)=false by simpa using h0];show alt _ _ (zlm _ _ (if (nxS p way t st x).2=true then (nxS p way t st x).1.1::brk t st (slS p way t) n (nxS p way t st x).1.1 else []))=_;cases hok:(nxS p way t st x).2 with
          | false =>
            simp only [Bool.false_eq_true,if_false,zlm,zbx,Bool.false_and,Bool.or_false];rw [show (x.1==0)=false by simpa using h0]
          | true =>
            simp only [if_true,zlm,Bool.true_and,Bool.false_or];cases hfy:zfm p way t stop (nxS p way t st x).1.1 with
            | false=>rfl
            | true =>
              simp only [if_true,Bool.true_and];exact ih _
    exact key 36000 x
theorem zuh (hx:0≤x.1∧x.1≤25000*t.1) (hwx:10*t.1≤x.2.1∧x.2.1≤1000000000000000000) (stop:Int):zdt (p,way,t,st,stop,()) x=some (zlC p way t st stop x):=by
  have hm:=ht.m;unfold zdt;have key:∀ (n k:Nat) (v w:Int),k+n=36000->0≤v∧v≤25000*t.1->10*t.1≤w∧w+2000000000*n≤2000000000000000000->∃ T:Bool×Int×Int,T.1=(zfm p way t stop (v,w,())&&zpJ p way t st stop n (v,w,()))∧Lp (fun s54:Int×Int×Int =>
Option.bind (zP t ((s54.2.1,s54.2.2,()))) fun y66 =>
cond ((decide (y66>stop))) (some (.inr (((false,s54.2.1,s54.2.2))))) (Option.bind (zcV .i64 s54.2.1 t.1) fun x69 =>
Option.bind (zP t ((s54.2.1,s54.2.2,()))) fun y70 =>
Option.bind (zc0 p way t y70) fun y71 =>
cond ((decide (x69>y71))) (some (.inr (((false,s54.2.1,s54.2.2))))) (cond ((s54.2.1==0)) (some (.inr (((true,s54.2.1,s54.2.2))))) (cond ((s54.1==36000)) (some (.inr (((false,s54.2.1,s54.2.2))))) (Option.bind (zP t ((s54.2.1,s54.2.2,()))) fun y78 =>
Option.bind (zaX (p,way,t,st,stop,()) y78) fun y79 =>
Option.bind (zaE t ((s54.2.1,s54.2.2,())) ((-4)) y79 st) fun y80 =>
cond ((!y80.2.2)) (some (.inr (((false,y80.1.1,y80.1.2.1))))) (some (.inl (((w64 (s54.1+1)),y80.1.1,y80.1.2.1))))))))) n ((k:Int),v,w) T:=by
    intro n;induction n with
    | zero =>
      intro k v w hk hv hww;have:k=36000:=by omega
      subst this;have hso:zor t (v,w,()):=⟨hv,⟨by show 0≤w; omega,by show w≤_; omega⟩⟩;have hf0:znH t st 0 0:=⟨hst,by omega,by omega⟩;have hpl:1≤zD t (v,w,())∧zD t (v,w,())≤4000000000000000000:=by
        refine ⟨?_,(zmQ hp hw ht hso).2⟩;show 1≤w/(10*t.1);exact (Int.le_ediv_iff_mul_le (by omega)).2 (by omega)
      have e0:zP t (v,w,())=some (zD t (v,w,())):=(zf1 ht hso st).2;have e1:zcV .i64 v t.1=some (v/t.1):=(zhS ht hf0 hso).2;by_cases c1:zD t (v,w,())≤stop
      · by_cases c2:v/t.1≤zlJ p way t (zD t (v,w,()))
        · have hfb:zfm p way t stop (v,w,())=true:=by
            unfold zfm;rw [decide_eq_true c1,decide_eq_true (show (v,w,()).1/t.1≤zlJ p way t (zD t (v,w,())) from c2)]; rfl
          rw [hfb];by_cases h0:v=0
          · subst h0;refine ⟨(true,0,w),rfl,Lp.done ?_⟩;simp only [e0,Option.bind_some,e1,zeJ hp hw ht hpl,decide_eq_false (show ¬ zD t (0,w,())>stop by omega),decide_eq_false (show ¬ (0:Int)/t.1>zlJ p way t (zD t (0,w,())) by omega),cond_false];rfl
          · have hb:(v==0)=false:=by simpa using h0
            refine ⟨(false,v,w), ?_,Lp.done ?_⟩
            · show false=(true&&(v==0)); rw [hb]; rfl
            simp only [e0,Option.bind_some,e1,zeJ hp hw ht hpl,decide_eq_false (show ¬ zD t (v,w,())>stop by omega),decide_eq_false (show ¬ v/t.1>zlJ p way t (zD t (v,w,())) by omega),cond_false,hb];rfl
        · refine ⟨(false,v,w), ?_,Lp.done ?_⟩
          · unfold zfm;rw [decide_eq_false (show ¬ (v,w,()).1/t.1≤zlJ p way t (zD t (v,w,())) from c2),Bool.and_false]; rfl
          simp only [e0,Option.bind_some,e1,zeJ hp hw ht hpl,decide_eq_false (show ¬ zD t (v,w,())>stop by omega),decide_eq_true (show v/t.1>zlJ p way t (zD t (v,w,())) by omega),cond_false,cond_true]
      · refine ⟨(false,v,w), ?_,Lp.done ?_⟩
        · unfold zfm;rw [decide_eq_false c1]; rfl
        simp only [e0,Option.bind_some,decide_eq_true (show zD t (v,w,())>stop by omega),cond_true]
    | succ n ih =>
      intro k v w hk hv hww;have hk0:((k:Int)==36000)=false:=by simp; omega
      have hso:zor t (v,w,()):=⟨hv,⟨by show 0≤w; omega,by show w≤_; omega⟩⟩;have hf0:znH t st 0 0:=⟨hst,by omega,by omega⟩;have hpl:1≤zD t (v,w,())∧zD t (v,w,())≤4000000000000000000:=by
        refine ⟨?_,(zmQ hp hw ht hso).2⟩;show 1≤w/(10*t.1);exact (Int.le_ediv_iff_mul_le (by omega)).2 (by omega)
      have e0:zP t (v,w,())=some (zD t (v,w,())):=(zf1 ht hso st).2;have e1:zcV .i64 v t.1=some (v/t.1):=(zhS ht hf0 hso).2;by_cases c1:zD t (v,w,())≤stop
      · by_cases c2:v/t.1≤zlJ p way t (zD t (v,w,()))
        · have hfb:zfm p way t stop (v,w,())=true:=by
            unfold zfm;rw [decide_eq_true c1,decide_eq_true (show (v,w,()).1/t.1≤zlJ p way t (zD t (v,w,())) from c2)]; rfl
          rw [hfb];unfold zpJ;by_cases h0:v=0
          · subst h0;refine ⟨(true,0,w),rfl,Lp.done ?_⟩;simp only [e0,Option.bind_some,e1,zeJ hp hw ht hpl,decide_eq_false (show ¬ zD t (0,w,())>stop by omega),decide_eq_false (show ¬ (0:Int)/t.1>zlJ p way t (zD t (0,w,())) by omega),cond_false];rfl
          · have hb:(v==0)=false:=by simpa using h0
            have hsl:=zgk hp hw ht hso (zD t (v,w,()));have hfin:znH t st (-4) (zel p way (zD t (v,w,()))):=⟨hst,by omega,hsl⟩;have hstep:zaE t (v,w,()) (-4) (zel p way (zD t (v,w,()))) st=some ((nxS p way t st (v,w,())).1.1,(nxS p way t st (v,w,())).1.2.1,(nxS p way t st (v,w,())).2):=zln ht hfin hso;have hbx:(((v,w,()):zf).1==0)=false:=hb;rw [hbx];cases hok:(nxS p way t st (v,w,())).2 with
            | false =>
              refine ⟨(false,(nxS p way t st (v,w,())).1.1.1,(nxS p way t st (v,w,())).1.1.2.1),rfl,Lp.done ?_⟩;simp only [e0,Option.bind_some,e1,zeJ hp hw ht hpl,decide_eq_false (show ¬ zD t (v,w,())>stop by omega),decide_eq_false (show ¬ v/t.1>zlJ p way t (zD t (v,w,())) by omega),cond_false,hb,hk0,zfl hp hw ht (show 0≤zD t (v,w,())∧zD t (v,w,())≤4000000000000000000 by omega),hstep,hok,Bool.not_false,cond_true]
            | true =>
              obtain ⟨n1,n2⟩:=zf2 ht hfin hv ⟨by show 0≤w; omega,by show w≤_; omega⟩ hok;have n1':0≤(nxS p way t st (v,w,())).1.1.1∧(nxS p way t st (v,w,())).1.1.1≤25000*t.1:=n1;have n2':(nxS p way t st (v,w,())).1.1.2.1=w+(nxS p way t st (v,w,())).1.1.1:=n2;obtain ⟨T,h1,h2⟩:=ih (k+1) (nxS p way t st (v,w,())).1.1.1 (nxS p way t st (v,w,())).1.1.2.1 (by omega) n1' (by omega);refine ⟨T, ?_,Lp.step ?_ h2⟩
              · rw [h1]; rfl
              simp only [e0,Option.bind_some,e1,zeJ hp hw ht hpl,decide_eq_false (show ¬ zD t (v,w,())>stop by omega),decide_eq_false (show ¬ v/t.1>zlJ p way t (zD t (v,w,())) by omega),cond_false,hb,hk0,zfl hp hw ht (show 0≤zD t (v,w,())∧zD t (v,w,())≤4000000000000000000 by omega),hstep,hok,Bool.not_true];rw [zN (by omega)]
        · refine ⟨(false,v,w), ?_,Lp.done ?_⟩
          · unfold zfm;rw [decide_eq_false (show ¬ (v,w,()).1/t.1≤zlJ p way t (zD t (v,w,())) from c2),Bool.and_false]; rfl
          simp only [e0,Option.bind_some,e1,zeJ hp hw ht hpl,decide_eq_false (show ¬ zD t (v,w,())>stop by omega),decide_eq_true (show v/t.1>zlJ p way t (zD t (v,w,())) by omega),cond_false,cond_true]
      · refine ⟨(false,v,w), ?_,Lp.done ?_⟩
        · unfold zfm;rw [decide_eq_false c1]; rfl
        simp only [e0,Option.bind_some,decide_eq_true (show zD t (v,w,())>stop by omega),cond_true]
  obtain ⟨T,h1,h2⟩:=key 36000 0 x.1 x.2.1 (by omega) hx (by omega);rw [show ((0:Nat):Int)=0 from rfl] at h2;have hB:=h2.big (by simp only [big]; omega);have:=congrArg (fun o=>Option.bind o fun t82:Bool×Int×Int=>some t82.1) hB;exact this.trans (congrArg some h1)
end
end Go.Ai.Sx

/- Motion: the first safe demand. -/
namespace Go.Ai.Sx
def zsA (ok:Int->Bool):Nat->Int->Option Int
 | 0,_=>none
 | n+1,d=>if ok d then some d else zsA ok n (d-1)
theorem zjM {ok:Int->Bool}:∀ {n:Nat} {d e:Int},zsA ok n d=some e->ok e=true∧d-n<e∧e≤d
 | 0,_,_,h=>by cases h
 | n+1,d,e,h=>by
  rw [zsA] at h;split at h
  ·rename_i hk;cases h;exact ⟨hk,by omega,by omega⟩
  ·obtain ⟨h1,h2,h3⟩:=zjM h;exact ⟨h1,by omega,by omega⟩
section
variable (p:Plan) (way:List zR) (t:Train) (st stop:Int)
def zcC (x:zf) (d:Int):zbF×Bool:=zdG t st x d (slS p way t x)
def okD (x:zf) (d:Int):Bool:=(zcC p way t st x d).2&&zlC p way t st stop (zcC p way t st x d).1.1
def zpK (x:zf):Option Int:=zsA (okD p way t st stop x) 9 4
end
def zAq (s:zbF):Bool×Int×Int×Int×Int×Int×Int×Int×Int×Int×Int:=(true,s.1.1,s.1.2.1,s.2.1.1,s.2.1.2.1,s.2.1.2.2.1,s.2.1.2.2.2.1,s.2.1.2.2.2.2.1,s.2.1.2.2.2.2.2.1,s.2.2.1,s.2.2.2.1)
section
variable {p:Plan} {way:List zR} {t:Train} {st:Int} {stops:List Int} {x:zf} (hp:zic p) (hw:zhk p way) (ht:zjQ t) (hst:0≤st∧st<t.2.2.2.2.2.2.2.2.2.1.length)
include hp hw ht hst
theorem zmS (hx:0≤x.1∧x.1≤25000*t.1) (hwx:0≤x.2.1∧x.2.1≤500000000000000000) (stop:Int):zaL (ziD p way t st stops) x stop=some (match zpK p way t st stop x with | some d=>((zcC p way t st x d).1,true) | none=>(((0,0,()),(0,0,0,0,0,0,()),0,0,()),false)):=by
  have hm:=ht.m;have hso:zor t x:=⟨hx,⟨hwx.1,by omega⟩⟩;have hsl:=zgk hp hw ht hso (zD t x);unfold zaL;rw [zud hp hw ht hso,Option.bind_some];have key:∀ (n k:Nat),k+n=9->Lp (fun s26:Bool×Int×Int×Int×Int×Int×Int×Int×Int×Int×Int×Int =>
cond ((decide (s26.2.1<9))) (Option.bind (zaw (ziD p way t st stops).1 x ((w64 (4-s26.2.1))) (zel p way (zD t x))) fun y31 =>
cond (y31.2) (Option.bind (zbL (ziD p way t st stops) y31.1.1 stop) fun y36 =>
cond (y36) (some (.inr (((true,y31.1.1.1,y31.1.1.2.1,y31.1.2.1.1,y31.1.2.1.2.1,y31.1.2.1.2.2.1,y31.1.2.1.2.2.2.1,y31.1.2.1.2.2.2.2.1,y31.1.2.1.2.2.2.2.2.1,y31.1.2.2.1,y31.1.2.2.2.1):Bool×Int×Int×Int×Int×Int×Int×Int×Int×Int×Int)))) (some (.inl ((s26.1,(w64 (s26.2.1+1)),s26.2.2.1,s26.2.2.2.1,s26.2.2.2.2.1,s26.2.2.2.2.2.1,s26.2.2.2.2.2.2.1,s26.2.2.2.2.2.2.2.1,s26.2.2.2.2.2.2.2.2.1,s26.2.2.2.2.2.2.2.2.2.1,s26.2.2.2.2.2.2.2.2.2.2.1,s26.2.2.2.2.2.2.2.2.2.2.2))))) (some (.inl ((s26.1,(w64 (s26.2.1+1)),s26.2.2.1,s26.2.2.2.1,s26.2.2.2.2.1,s26.2.2.2.2.2.1,s26.2.2.2.2.2.2.1,s26.2.2.2.2.2.2.2.1,s26.2.2.2.2.2.2.2.2.1,s26.2.2.2.2.2.2.2.2.2.1,s26.2.2.2.2.2.2.2.2.2.2.1,s26.2.2.2.2.2.2.2.2.2.2.2))))) (some (.inr (((s26.1,s26.2.2.1,s26.2.2.2.1,s26.2.2.2.2.1,s26.2.2.2.2.2.1,s26.2.2.2.2.2.2.1,s26.2.2.2.2.2.2.2.1,s26.2.2.2.2.2.2.2.2.1,s26.2.2.2.2.2.2.2.2.2.1,s26.2.2.2.2.2.2.2.2.2.2.1,s26.2.2.2.2.2.2.2.2.2.2.2)))))) n (false,(k:Int),0,0,0,0,0,0,0,0,0,0) (match zsA (okD p way t st stop x) n (4-k) with | some d=>zAq (zcC p way t st x d).1 | none=>(false,0,0,0,0,0,0,0,0,0,0)):=by
    intro n;induction n with
    | zero =>
      intro k hk;have:k=9:=by omega
      subst this;exact Lp.done rfl
    | succ n ih =>
      intro k hk;have hfin:znH t st (4-k) (zel p way (zD t x)):=⟨hst,by omega,hsl⟩;have hstep:zaw (ziD p way t st stops).1 x (4-(k:Int)) (zel p way (zD t x))=some (zcC p way t st x (4-k)):=zos ht hfin hso;have hnext:Lp _ _ _ _:=ih (k+1) (by omega);rw [show (4-((k+1:Nat):Int))=4-(k:Int)-1 by omega] at hnext;have hok:okD p way t st stop x (4-k)=((zcC p way t st x (4-k)).2&&zlC p way t st stop (zcC p way t st x (4-k)).1.1):=rfl;rw [zsA,hok];cases h1:(zcC p way t st x (4-k)).2 with
      | false =>
        simp only [Bool.false_and,Bool.false_eq_true,if_false];refine Lp.step ?_ hnext;simp only [decide_eq_true (show (k:Int)<9 by omega),cond_true,zm (n:=4-(k:Int)) (by omega) (by omega),hstep,Option.bind_some,h1,cond_false];rw [zN (by omega)]
      | true =>
        obtain ⟨n1,n2⟩:=zf2 ht hfin hx hso.w h1;have n1':0≤(zcC p way t st x (4-k)).1.1.1∧(zcC p way t st x (4-k)).1.1.1≤25000*t.1:=n1;have n2':(zcC p way t st x (4-k)).1.1.2.1=x.2.1+(zcC p way t st x (4-k)).1.1.1:=n2;have hsafe:=zxh (stops:=stops) hp hw ht hst n1' (by omega) stop;cases h2:zlC p way t st stop (zcC p way t st x (4-k)).1.1 with
        | false =>
          simp only [Bool.and_false,Bool.false_eq_true,if_false];refine Lp.step ?_ hnext;simp only [decide_eq_true (show (k:Int)<9 by omega),cond_true,zm (n:=4-(k:Int)) (by omega) (by omega),hstep,Option.bind_some,h1,hsafe,h2,cond_false];rw [zN (by omega)]
        | true =>
          simp only [Bool.and_true,if_true];refine Lp.done ?_;simp only [decide_eq_true (show (k:Int)<9 by omega),cond_true,zm (n:=4-(k:Int)) (by omega) (by omega),hstep,Option.bind_some,h1,hsafe,h2];rfl
  have hB:=(key 9 0 rfl).big (by simp only [big]; omega);rw [show ((0:Nat):Int)=0 from rfl] at hB;refine (congrArg (fun o=>Option.bind o fun t39:Bool×Int×Int×Int×Int×Int×Int×Int×Int×Int×Int=>some ((((t39.2.1,t39.2.2.1,()),(t39.2.2.2.1,t39.2.2.2.2.1,t39.2.2.2.2.2.1,t39.2.2.2.2.2.2.1,t39.2.2.2.2.2.2.2.1,t39.2.2.2.2.2.2.2.2.1,()),t39.2.2.2.2.2.2.2.2.2.1,t39.2.2.2.2.2.2.2.2.2.2,()),t39.1):zbF×Bool)) hB).trans ?_;rw [Option.bind_some];unfold zpK;rw [show (4:Int)-0=4 from rfl];cases zsA (okD p way t st stop x) 9 4<;>rfl
theorem zmT (hx:0≤x.1∧x.1≤25000*t.1) (hwx:10*t.1≤x.2.1∧x.2.1≤500000000000000000) (stop:Int):zb2 (p,way,t,st,stop,()) x=some (match zpK p way t st stop x with | some d=>(d,true) | none=>(0,false)):=by
  have hm:=ht.m;have hso:zor t x:=⟨hx,⟨by omega,by omega⟩⟩;have hsl:=zgk hp hw ht hso (zD t x);have hpl:=zmQ hp hw ht hso;unfold zb2;have key:∀ (n:Nat) (d:Int),d+5=n->d≤4->Lp (fun s18:Int =>
cond ((decide (s18≥(-4)))) (Option.bind (zP t x) fun y26 =>
Option.bind (zaX (p,way,t,st,stop,()) y26) fun y27 =>
Option.bind (zaE t x s18 y27 st) fun y28 =>
cond (y28.2.2) (Option.bind (zdt (p,way,t,st,stop,()) y28.1) fun y34 =>
cond (y34) (some (.inr ((.inr ((s18,true)))))) (some (.inl ((w64 (s18-1)))))) (some (.inl ((w64 (s18-1)))))) (some (.inr ((.inl (())))))) n d (match zsA (okD p way t st stop x) n d with | some e=>(.inr (e,true):Unit⊕(Int×Bool)) | none=>.inl ()):=by
    intro n;induction n with
    | zero =>
      intro d hd _;refine Lp.done ?_;rw [decide_eq_false (by omega)]; rfl
    | succ n ih =>
      intro d hd hd4;have hfin:znH t st d (zel p way (zD t x)):=⟨hst,by omega,hsl⟩;have hstep:zaE t x d (zel p way (zD t x)) st=some ((zcC p way t st x d).1.1,(zcC p way t st x d).1.2.1,(zcC p way t st x d).2):=zln ht hfin hso;have e0:zP t x=some (zD t x):=(zf1 ht hso st).2;have hnext:=ih (d-1) (by omega) (by omega);have hok:okD p way t st stop x d=((zcC p way t st x d).2&&zlC p way t st stop (zcC p way t st x d).1.1):=rfl;rw [zsA,hok];cases h1:(zcC p way t st x d).2 with
      | false =>
        simp only [Bool.false_and,Bool.false_eq_true,if_false];refine Lp.step ?_ hnext;simp only [decide_eq_true (show d≥-4 by omega),cond_true,e0,Option.bind_some,zfl hp hw ht hpl,hstep,h1,cond_false,zm (n:=d-1) (by omega) (by omega)]
      | true =>
        obtain ⟨n1,n2⟩:=zf2 ht hfin hx hso.w h1;have n1':0≤(zcC p way t st x d).1.1.1∧(zcC p way t st x d).1.1.1≤25000*t.1:=n1;have n2':(zcC p way t st x d).1.1.2.1=x.2.1+(zcC p way t st x d).1.1.1:=n2;have hsafe:=zuh hp hw ht hst n1' (by omega) stop;cases h2:zlC p way t st stop (zcC p way t st x d).1.1 with
        | false =>
          simp only [Bool.and_false,Bool.false_eq_true,if_false];refine Lp.step ?_ hnext;simp only [decide_eq_true (show d≥-4 by omega),cond_true,e0,Option.bind_some,zfl hp hw ht hpl,hstep,h1,hsafe,h2,cond_false,zm (n:=d-1) (by omega) (by omega)]
        | true =>
          simp only [Bool.and_true,if_true];refine Lp.done ?_;simp only [decide_eq_true (show d≥-4 by omega),cond_true,e0,Option.bind_some,zfl hp hw ht hpl,hstep,h1,hsafe,h2]
  have hB:=(key 9 4 rfl (by omega)).big (by simp only [big]; omega);rw [hB,Option.bind_some];unfold zpK;cases zsA (okD p way t st stop x) 9 4<;>rfl
end
end Go.Ai.Sx

/- Motion: one leg. -/
namespace Go.Ai.Sx
def zxi (p_0:zav) (p_2:Int):((Int×Int×Int×Int×Int×Int×Int×Int×Int×Int×Int×Int×Int×Int×Int×Int×Int×Int×Int×Int×Int×Int×Int×Int×Int))->Option (((Int×Int×Int×Int×Int×Int×Int×Int×Int×Int×Int×Int×Int×Int×Int×Int×Int×Int×Int×Int×Int×Int×Int×Int×Int))⊕((Bool×Int×Int×Int×Int×Int×Int×Int×Int×Int×Int×Int×Int×Int×Int×Int×Int×Int×Int×Int×Int×Int×Int×Int×Int))):=(fun s77 =>
Option.bind (zS p_0.1 ((s77.2.2.2.2.2.2.2.2.2.2.2.2.2.2.1,s77.2.2.2.2.2.2.2.2.2.2.2.2.2.2.2.1,()))) fun y80 =>
cond ((s77.2.2.2.2.2.2.2.2.2.2.2.2.2.2.1==0)) (Option.bind (zW ((w64 (p_2-y80))) 0 1000) fun y84 =>
cond (y84) (some (.inr (((true,y80,s77.2.2.2.2.2.2.2.2.2.2.2.2.2.2.1,s77.2.2.2.2.2.2.2.2.2.2.2.2.2.2.2.1,s77.2.1,y80,s77.2.2.2.1,s77.2.2.2.2.1,s77.2.2.2.2.2.1,s77.2.2.2.2.2.2.1,s77.2.2.2.2.2.2.2.1,s77.2.2.2.2.2.2.2.2.1,s77.2.2.2.2.2.2.2.2.2.1,s77.2.2.2.2.2.2.2.2.2.2.1,s77.2.1,s77.2.2.2.1,s77.2.2.2.2.1,s77.2.2.2.2.2.1,s77.2.2.2.2.2.2.1,s77.2.2.2.2.2.2.2.1,s77.2.2.2.2.2.2.2.2.1,s77.2.2.2.2.2.2.2.2.2.1,s77.2.2.2.2.2.2.2.2.2.2.1,s77.2.2.2.2.2.2.2.2.2.2.2.2.2.2.1,s77.2.2.2.2.2.2.2.2.2.2.2.2.2.2.2.1))))) (cond ((s77.1==36000)) (some (.inr (((false,s77.2.2.1,s77.2.2.2.2.2.2.2.2.2.2.2.2.2.2.1,s77.2.2.2.2.2.2.2.2.2.2.2.2.2.2.2.1,s77.2.1,s77.2.2.1,s77.2.2.2.1,s77.2.2.2.2.1,s77.2.2.2.2.2.1,s77.2.2.2.2.2.2.1,s77.2.2.2.2.2.2.2.1,s77.2.2.2.2.2.2.2.2.1,s77.2.2.2.2.2.2.2.2.2.1,s77.2.2.2.2.2.2.2.2.2.2.1,s77.2.1,s77.2.2.2.1,s77.2.2.2.2.1,s77.2.2.2.2.2.1,s77.2.2.2.2.2.2.1,s77.2.2.2.2.2.2.2.1,s77.2.2.2.2.2.2.2.2.1,s77.2.2.2.2.2.2.2.2.2.1,s77.2.2.2.2.2.2.2.2.2.2.1,s77.2.2.2.2.2.2.2.2.2.2.2.2.2.2.1,s77.2.2.2.2.2.2.2.2.2.2.2.2.2.2.2.1))))) (Option.bind (zaL p_0 ((s77.2.2.2.2.2.2.2.2.2.2.2.2.2.2.1,s77.2.2.2.2.2.2.2.2.2.2.2.2.2.2.2.1,())) p_2) fun y87 =>
cond ((!y87.2)) (some (.inr (((false,s77.2.2.1,s77.2.2.2.2.2.2.2.2.2.2.2.2.2.2.1,s77.2.2.2.2.2.2.2.2.2.2.2.2.2.2.2.1,s77.2.1,s77.2.2.1,s77.2.2.2.1,s77.2.2.2.2.1,s77.2.2.2.2.2.1,s77.2.2.2.2.2.2.1,s77.2.2.2.2.2.2.2.1,s77.2.2.2.2.2.2.2.2.1,s77.2.2.2.2.2.2.2.2.2.1,s77.2.2.2.2.2.2.2.2.2.2.1,s77.2.1,s77.2.2.2.1,s77.2.2.2.2.1,s77.2.2.2.2.2.1,s77.2.2.2.2.2.2.1,s77.2.2.2.2.2.2.2.1,s77.2.2.2.2.2.2.2.2.1,s77.2.2.2.2.2.2.2.2.2.1,s77.2.2.2.2.2.2.2.2.2.2.1,s77.2.2.2.2.2.2.2.2.2.2.2.2.2.2.1,s77.2.2.2.2.2.2.2.2.2.2.2.2.2.2.2.1))))) (cond ((decide (y87.1.1.2.1>10000000000000000))) (some (.inr (((false,s77.2.2.1,s77.2.2.2.2.2.2.2.2.2.2.2.2.2.2.1,s77.2.2.2.2.2.2.2.2.2.2.2.2.2.2.2.1,s77.2.1,s77.2.2.1,s77.2.2.2.1,s77.2.2.2.2.1,s77.2.2.2.2.2.1,s77.2.2.2.2.2.2.1,s77.2.2.2.2.2.2.2.1,s77.2.2.2.2.2.2.2.2.1,s77.2.2.2.2.2.2.2.2.2.1,s77.2.2.2.2.2.2.2.2.2.2.1,s77.2.1,s77.2.2.2.1,s77.2.2.2.2.1,s77.2.2.2.2.2.1,s77.2.2.2.2.2.2.1,s77.2.2.2.2.2.2.2.1,s77.2.2.2.2.2.2.2.2.1,s77.2.2.2.2.2.2.2.2.2.1,s77.2.2.2.2.2.2.2.2.2.2.1,s77.2.2.2.2.2.2.2.2.2.2.2.2.2.2.1,s77.2.2.2.2.2.2.2.2.2.2.2.2.2.2.2.1))))) (Option.bind (zco ([(s77.2.2.2.1,s77.2.2.2.2.1,s77.2.2.2.2.2.1,s77.2.2.2.2.2.2.1,s77.2.2.2.2.2.2.2.1,s77.2.2.2.2.2.2.2.2.1,()),y87.1.2.1])) fun y93 =>
some (.inl (((w64 (s77.1+1)),(w64 (s77.2.1+100)),s77.2.2.1,y93.1,y93.2.1,y93.2.2.1,y93.2.2.2.1,y93.2.2.2.2.1,y93.2.2.2.2.2.1,(max s77.2.2.2.2.2.2.2.2.2.1 y87.1.2.2.1),(max s77.2.2.2.2.2.2.2.2.2.2.1 y87.1.2.2.2.1),s77.2.2.2.2.2.2.2.2.2.2.2.1,s77.2.2.2.2.2.2.2.2.2.2.2.2.1,s77.2.2.2.2.2.2.2.2.2.2.2.2.2.1,y87.1.1.1,y87.1.1.2.1,s77.2.2.2.2.2.2.2.2.2.2.2.2.2.2.2.2.1,s77.2.2.2.2.2.2.2.2.2.2.2.2.2.2.2.2.2.1,s77.2.2.2.2.2.2.2.2.2.2.2.2.2.2.2.2.2.2.1,s77.2.2.2.2.2.2.2.2.2.2.2.2.2.2.2.2.2.2.2.1,s77.2.2.2.2.2.2.2.2.2.2.2.2.2.2.2.2.2.2.2.2.1,s77.2.2.2.2.2.2.2.2.2.2.2.2.2.2.2.2.2.2.2.2.2.1,s77.2.2.2.2.2.2.2.2.2.2.2.2.2.2.2.2.2.2.2.2.2.2.1,s77.2.2.2.2.2.2.2.2.2.2.2.2.2.2.2.2.2.2.2.2.2.2.2.1,s77.2.2.2.2.2.2.2.2.2.2.2.2.2.2.2.2.2.2.2.2.2.2.2.2)))))))) (cond ((s77.1==36000)) (some (.inr (((false,s77.2.2.1,s77.2.2.2.2.2.2.2.2.2.2.2.2.2.2.1,s77.2.2.2.2.2.2.2.2.2.2.2.2.2.2.2.1,s77.2.1,s77.2.2.1,s77.2.2.2.1,s77.2.2.2.2.1,s77.2.2.2.2.2.1,s77.2.2.2.2.2.2.1,s77.2.2.2.2.2.2.2.1,s77.2.2.2.2.2.2.2.2.1,s77.2.2.2.2.2.2.2.2.2.1,s77.2.2.2.2.2.2.2.2.2.2.1,s77.2.1,s77.2.2.2.1,s77.2.2.2.2.1,s77.2.2.2.2.2.1,s77.2.2.2.2.2.2.1,s77.2.2.2.2.2.2.2.1,s77.2.2.2.2.2.2.2.2.1,s77.2.2.2.2.2.2.2.2.2.1,s77.2.2.2.2.2.2.2.2.2.2.1,s77.2.2.2.2.2.2.2.2.2.2.2.2.2.2.1,s77.2.2.2.2.2.2.2.2.2.2.2.2.2.2.2.1))))) (Option.bind (zaL p_0 ((s77.2.2.2.2.2.2.2.2.2.2.2.2.2.2.1,s77.2.2.2.2.2.2.2.2.2.2.2.2.2.2.2.1,())) p_2) fun y96 =>
cond ((!y96.2)) (some (.inr (((false,s77.2.2.1,s77.2.2.2.2.2.2.2.2.2.2.2.2.2.2.1,s77.2.2.2.2.2.2.2.2.2.2.2.2.2.2.2.1,s77.2.1,s77.2.2.1,s77.2.2.2.1,s77.2.2.2.2.1,s77.2.2.2.2.2.1,s77.2.2.2.2.2.2.1,s77.2.2.2.2.2.2.2.1,s77.2.2.2.2.2.2.2.2.1,s77.2.2.2.2.2.2.2.2.2.1,s77.2.2.2.2.2.2.2.2.2.2.1,s77.2.1,s77.2.2.2.1,s77.2.2.2.2.1,s77.2.2.2.2.2.1,s77.2.2.2.2.2.2.1,s77.2.2.2.2.2.2.2.1,s77.2.2.2.2.2.2.2.2.1,s77.2.2.2.2.2.2.2.2.2.1,s77.2.2.2.2.2.2.2.2.2.2.1,s77.2.2.2.2.2.2.2.2.2.2.2.2.2.2.1,s77.2.2.2.2.2.2.2.2.2.2.2.2.2.2.2.1))))) (cond ((decide (y96.1.1.2.1>10000000000000000))) (some (.inr (((false,s77.2.2.1,s77.2.2.2.2.2.2.2.2.2.2.2.2.2.2.1,s77.2.2.2.2.2.2.2.2.2.2.2.2.2.2.2.1,s77.2.1,s77.2.2.1,s77.2.2.2.1,s77.2.2.2.2.1,s77.2.2.2.2.2.1,s77.2.2.2.2.2.2.1,s77.2.2.2.2.2.2.2.1,s77.2.2.2.2.2.2.2.2.1,s77.2.2.2.2.2.2.2.2.2.1,s77.2.2.2.2.2.2.2.2.2.2.1,s77.2.1,s77.2.2.2.1,s77.2.2.2.2.1,s77.2.2.2.2.2.1,s77.2.2.2.2.2.2.1,s77.2.2.2.2.2.2.2.1,s77.2.2.2.2.2.2.2.2.1,s77.2.2.2.2.2.2.2.2.2.1,s77.2.2.2.2.2.2.2.2.2.2.1,s77.2.2.2.2.2.2.2.2.2.2.2.2.2.2.1,s77.2.2.2.2.2.2.2.2.2.2.2.2.2.2.2.1))))) (Option.bind (zco ([(s77.2.2.2.1,s77.2.2.2.2.1,s77.2.2.2.2.2.1,s77.2.2.2.2.2.2.1,s77.2.2.2.2.2.2.2.1,s77.2.2.2.2.2.2.2.2.1,()),y96.1.2.1])) fun y102 =>
some (.inl (((w64 (s77.1+1)),(w64 (s77.2.1+100)),s77.2.2.1,y102.1,y102.2.1,y102.2.2.1,y102.2.2.2.1,y102.2.2.2.2.1,y102.2.2.2.2.2.1,(max s77.2.2.2.2.2.2.2.2.2.1 y96.1.2.2.1),(max s77.2.2.2.2.2.2.2.2.2.2.1 y96.1.2.2.2.1),s77.2.2.2.2.2.2.2.2.2.2.2.1,s77.2.2.2.2.2.2.2.2.2.2.2.2.1,s77.2.2.2.2.2.2.2.2.2.2.2.2.2.1,y96.1.1.1,y96.1.1.2.1,s77.2.2.2.2.2.2.2.2.2.2.2.2.2.2.2.2.1,s77.2.2.2.2.2.2.2.2.2.2.2.2.2.2.2.2.2.1,s77.2.2.2.2.2.2.2.2.2.2.2.2.2.2.2.2.2.2.1,s77.2.2.2.2.2.2.2.2.2.2.2.2.2.2.2.2.2.2.2.1,s77.2.2.2.2.2.2.2.2.2.2.2.2.2.2.2.2.2.2.2.2.1,s77.2.2.2.2.2.2.2.2.2.2.2.2.2.2.2.2.2.2.2.2.2.1,s77.2.2.2.2.2.2.2.2.2.2.2.2.2.2.2.2.2.2.2.2.2.2.1,s77.2.2.2.2.2.2.2.2.2.2.2.2.2.2.2.2.2.2.2.2.2.2.2.1,s77.2.2.2.2.2.2.2.2.2.2.2.2.2.2.2.2.2.2.2.2.2.2.2.2))))))))
def zxG:((Bool×Int×Int×Int×Int×Int×Int×Int×Int×Int×Int×Int×Int×Int×Int×Int×Int×Int×Int×Int×Int×Int×Int×Int×Int))->Option (Leg×zf×Bool):=fun t103 =>
some (((t103.2.2.2.2.1,t103.2.2.2.2.2.1,(t103.2.2.2.2.2.2.1,t103.2.2.2.2.2.2.2.1,t103.2.2.2.2.2.2.2.2.1,t103.2.2.2.2.2.2.2.2.2.1,t103.2.2.2.2.2.2.2.2.2.2.1,t103.2.2.2.2.2.2.2.2.2.2.2.1,()),t103.2.2.2.2.2.2.2.2.2.2.2.2.1,t103.2.2.2.2.2.2.2.2.2.2.2.2.2.1,()),(t103.2.2.1,t103.2.2.2.1,()),t103.1))
theorem zxj (a b:Int):w64 (w64 a+b)=w64 (a+b):=by
 simp only [w64,IntKind.wrap,IntKind.bits,IntKind.signed]; simp; omega
def znP (l m:zam):zam:=(w64 (l.1+m.1),w64 (l.2.1+m.2.1),w64 (l.2.2.1+m.2.2.1),w64 (l.2.2.2.1+m.2.2.2.1),w64 (l.2.2.2.2.1+m.2.2.2.2.1),w64 (l.2.2.2.2.2.1+m.2.2.2.2.2.1),())
theorem zuV (l m:zam):zco [l,m]=some (znP l m):=by
 unfold zco;have hL:Lp (fun s9:Int×Int×Int×Int×Int×Int×Int =>
cond ((decide (s9.1<(zz [l,m])))) (Option.bind (idx [l,m] s9.1) fun x12 =>
some (.inl (((w64 (s9.1+1)),(w64 (s9.2.1+x12.1)),(w64 (s9.2.2.1+x12.2.1)),(w64 (s9.2.2.2.1+x12.2.2.1)),(w64 (s9.2.2.2.2.1+x12.2.2.2.1)),(w64 (s9.2.2.2.2.2.1+x12.2.2.2.2.1)),(w64 (s9.2.2.2.2.2.2+x12.2.2.2.2.2.1)))))) (some (.inr (((s9.2.1,s9.2.2.1,s9.2.2.2.1,s9.2.2.2.2.1,s9.2.2.2.2.2.1,s9.2.2.2.2.2.2)))))) 2 (0,0,0,0,0,0,0) (w64 (w64 (0+l.1)+m.1),w64 (w64 (0+l.2.1)+m.2.1),w64 (w64 (0+l.2.2.1)+m.2.2.1),w64 (w64 (0+l.2.2.2.1)+m.2.2.2.1),w64 (w64 (0+l.2.2.2.2.1)+m.2.2.2.2.1),w64 (w64 (0+l.2.2.2.2.2.1)+m.2.2.2.2.2.1)):=Lp.step rfl (Lp.step rfl (Lp.done rfl))
 rw [hL.big (by simp only [big]; omega),Option.bind_some];simp only [zxj,Int.zero_add];rfl
section
variable (p:Plan) (way:List zR) (t:Train) (st stop:Int)
def zlK (x:zf):Bool:=x.1==0&&decide (stop-zD t x≤1000)
def zjZ:Nat->Int->zam->Int->Int->zf->Option (Leg×zf)
 | 0,tm,l,a,b,x=>if zlK t stop x then some ((tm,zD t x,l,a,b,()),x) else none
 | n+1,tm,l,a,b,x=>if zlK t stop x then some ((tm,zD t x,l,a,b,()),x) else
  match zpK p way t st stop x with
  | none=>none
  | some d=>zjZ n (tm+100) (znP l (zcC p way t st x d).1.2.1) (max a (zcC p way t st x d).1.2.2.1) (max b (zcC p way t st x d).1.2.2.2.1) (zcC p way t st x d).1.1
end
structure zlL (t:Train) (stop:Int) (x:zf):Prop where
 p:0≤x.1∧x.1≤25000*t.1
 w:10*t.1≤x.2.1∧x.2.1≤1000000000000000
 s:zD t x≤stop
section
variable {p:Plan} {way:List zR} {t:Train} {st:Int} {stops:List Int} {x:zf} (hp:zic p) (hw:zhk p way) (ht:zjQ t) (hst:0≤st∧st<t.2.2.2.2.2.2.2.2.2.1.length) {stop:Int} (hS:stop≤1000000000)
include hp hw ht hst hS
theorem zlD (hx:zlL t stop x) {d:Int} (hd:zpK p way t st stop x=some d):zlL t stop (zcC p way t st x d).1.1∧(zcC p way t st x d).1.1.2.1=x.2.1+(zcC p way t st x d).1.1.1∧zfm p way t stop (zcC p way t st x d).1.1=true:=by
 obtain ⟨h1,h2,h3⟩:=zjM hd;unfold okD at h1;rw [Bool.and_eq_true] at h1;have hm:=ht.m;have hxw:=hx.w;have hso:zor t x:=⟨hx.p,⟨by omega,by omega⟩⟩;have hfin:znH t st d (slS p way t x):=⟨hst,by omega,zgk hp hw ht hso _⟩;obtain ⟨n1,n2⟩:=zf2 ht hfin hx.p hso.w h1.1;have hs:=h1.2;unfold zlC at hs;rw [Bool.and_eq_true] at hs;have hf:=hs.1;unfold zfm at hf;rw [Bool.and_eq_true,decide_eq_true_eq] at hf;refine ⟨⟨n1, ?_,hf.1⟩,n2,hs.1⟩;have n2':(zcC p way t st x d).1.1.2.1=x.2.1+(zcC p way t st x d).1.1.1:=n2;have n1':0≤(zcC p way t st x d).1.1.1∧(zcC p way t st x d).1.1.1≤25000*t.1:=n1;refine ⟨by omega, ?_⟩;have h5:=hf.1;unfold zD at h5;have h6:(zcC p way t st x d).1.1.2.1<(stop+1)*(10*t.1):=(Int.ediv_lt_iff_lt_mul (by omega)).1 (by omega);by_cases h0:0≤stop+1
 ·have h7:=zb3 (a:=stop+1) (b:=10*t.1) (A:=1000000001) (B:=800000) ⟨h0,by omega⟩ ⟨by omega,by omega⟩;omega
 ·have h8:=Int.mul_nonneg (a:=-(stop+1)) (b:=10*t.1) (by omega) (by omega);rw [Int.neg_mul] at h8;omega
section
variable {k:Nat} {tm l1 l2 l3 l4 l5 l6 a b v w:Int} (hx:zlL t stop (v,w,()))
include hx
omit hp hw hst in
theorem zgl:zor t (v,w,())∧zS (ziD p way t st stops).1 (v,w,())=some (zD t (v,w,()))∧zP t (v,w,())=some (zD t (v,w,()))∧0≤zD t (v,w,()):=by
 have hm:=ht.m;have hxw:10*t.1≤w∧w≤1000000000000000:=hx.w;have hso:zor t (v,w,()):=⟨hx.p,⟨by show 0≤w; omega,by show w≤_; omega⟩⟩;have h0:0≤w/(10*t.1):=Int.ediv_nonneg (by omega) (by omega);exact ⟨hso,(zf1 ht hso st).1,(zf1 ht hso st).2,h0⟩
theorem zoB (ha:zlK t stop (v,w,())=true):∃ T,zxi (ziD p way t st stops) stop ((k:Int),tm,0,l1,l2,l3,l4,l5,l6,a,b,0,0,0,v,w,0,0,0,0,0,0,0,0,0)=some (.inr T)∧zxG T=some ((tm,zD t (v,w,()),(l1,l2,l3,l4,l5,l6,()),a,b,()),(v,w,()),true):=by
 obtain ⟨_,e0,_,h0⟩:=zgl (stops:=stops) (st:=st) (p:=p) (way:=way) ht hS hx;have hs:=hx.s;unfold zlK at ha;rw [Bool.and_eq_true,beq_iff_eq,decide_eq_true_eq] at ha;obtain ⟨ha1,ha2⟩:=ha;have ha1:v=0:=ha1;subst ha1;have hin:inB (stop-zD t (0,w,())) 0 1000=true:=zaH.2 (by omega);unfold zxi;simp only [e0,Option.bind_some,show ((0:Int)==0)=true from rfl,cond_true,mwithin,zm (n:=stop-zD t (0,w,())) (by omega) (by omega),hin];exact ⟨_,rfl,rfl⟩
theorem zoC (ha:zlK t stop (v,w,())=false) (hk:k=36000∨zpK p way t st stop (v,w,())=none):∃ T,zxi (ziD p way t st stops) stop ((k:Int),tm,0,l1,l2,l3,l4,l5,l6,a,b,0,0,0,v,w,0,0,0,0,0,0,0,0,0)=some (.inr T)∧∃ L X,zxG T=some (L,X,false):=by
 obtain ⟨hso,e0,_,h0⟩:=zgl (stops:=stops) (st:=st) (p:=p) (way:=way) ht hS hx;have hs:=hx.s;have hm:=ht.m;have hxw:10*t.1≤w∧w≤1000000000000000:=hx.w;have hc:=zmS (stops:=stops) hp hw ht hst hx.p (show 0≤((v,w,()):zf).2.1∧((v,w,()):zf).2.1≤500000000000000000 from ⟨by show 0≤w; omega,by show w≤_; omega⟩) stop;unfold zxi;by_cases hv:v=0
 ·subst hv;have hin:inB (stop-zD t (0,w,())) 0 1000=false:=by
   cases h:inB (stop-zD t (0,w,())) 0 1000 with
   | false=>rfl
   | true =>
    have:=zaH.1 h;unfold zlK at ha;rw [decide_eq_true (by omega)] at ha;cases ha
  simp only [e0,Option.bind_some,show ((0:Int)==0)=true from rfl,cond_true,mwithin,zm (n:=stop-zD t (0,w,())) (by omega) (by omega),hin,cond_false];by_cases hk0:k=36000
  ·subst hk0;exact ⟨_,rfl,_,_,rfl⟩
  ·have hkb:((k:Int)==36000)=false:=by simp; omega
   have hd:=hk.resolve_left hk0;rw [hd] at hc;simp only [hkb,cond_false,hc,Option.bind_some,Bool.not_false,cond_true];exact ⟨_,rfl,_,_,rfl⟩
 ·have hvb:(v==0)=false:=by simpa using hv
  simp only [e0,Option.bind_some,hvb,cond_false];by_cases hk0:k=36000
  ·subst hk0;exact ⟨_,rfl,_,_,rfl⟩
  ·have hkb:((k:Int)==36000)=false:=by simp; omega
   have hd:=hk.resolve_left hk0;rw [hd] at hc;simp only [hkb,cond_false,hc,Option.bind_some,Bool.not_false,cond_true];exact ⟨_,rfl,_,_,rfl⟩
theorem zxk (ha:zlK t stop (v,w,())=false) (hk:k<36000) (htm:0≤tm∧tm≤3600000) {d:Int} (hd:zpK p way t st stop (v,w,())=some d):zxi (ziD p way t st stops) stop ((k:Int),tm,0,l1,l2,l3,l4,l5,l6,a,b,0,0,0,v,w,0,0,0,0,0,0,0,0,0)=some (.inl (((k+1:Nat):Int),tm+100,0,(znP (l1,l2,l3,l4,l5,l6,()) (zcC p way t st (v,w,()) d).1.2.1).1,(znP (l1,l2,l3,l4,l5,l6,()) (zcC p way t st (v,w,()) d).1.2.1).2.1,(znP (l1,l2,l3,l4,l5,l6,()) (zcC p way t st (v,w,()) d).1.2.1).2.2.1,(znP (l1,l2,l3,l4,l5,l6,()) (zcC p way t st (v,w,()) d).1.2.1).2.2.2.1,(znP (l1,l2,l3,l4,l5,l6,()) (zcC p way t st (v,w,()) d).1.2.1).2.2.2.2.1,(znP (l1,l2,l3,l4,l5,l6,()) (zcC p way t st (v,w,()) d).1.2.1).2.2.2.2.2.1,max a (zcC p way t st (v,w,()) d).1.2.2.1,max b (zcC p way t st (v,w,()) d).1.2.2.2.1,0,0,0,(zcC p way t st (v,w,()) d).1.1.1,(zcC p way t st (v,w,()) d).1.1.2.1,0,0,0,0,0,0,0,0,0)):=by
 obtain ⟨hso,e0,_,h0⟩:=zgl (stops:=stops) (st:=st) (p:=p) (way:=way) ht hS hx;have hs:=hx.s;have hm:=ht.m;have hxw:10*t.1≤w∧w≤1000000000000000:=hx.w;have hc:=zmS (stops:=stops) hp hw ht hst hx.p (show 0≤((v,w,()):zf).2.1∧((v,w,()):zf).2.1≤500000000000000000 from ⟨by show 0≤w; omega,by show w≤_; omega⟩) stop;have hnw:=(zlD hp hw ht hst hS hx hd).1.w;have hkb:((k:Int)==36000)=false:=by simp; omega
 rw [hd] at hc;unfold zxi;by_cases hv:v=0
 ·subst hv;have hin:inB (stop-zD t (0,w,())) 0 1000=false:=by
   cases h:inB (stop-zD t (0,w,())) 0 1000 with
   | false=>rfl
   | true =>
    have:=zaH.1 h;unfold zlK at ha;rw [decide_eq_true (by omega)] at ha;cases ha
  simp only [e0,Option.bind_some,show ((0:Int)==0)=true from rfl,cond_true,mwithin,zm (n:=stop-zD t (0,w,())) (by omega) (by omega),hin,cond_false,hkb,hc,Bool.not_true,decide_eq_false (show ¬ (zcC p way t st (0,w,()) d).1.1.2.1>10000000000000000 by omega),zuV,zN (show k<9223372036854775807 by omega),zm (n:=tm+100) (by omega) (by omega)]
 ·have hvb:(v==0)=false:=by simpa using hv
  simp only [e0,Option.bind_some,hvb,cond_false,hkb,hc,Bool.not_true,decide_eq_false (show ¬ (zcC p way t st (v,w,()) d).1.1.2.1>10000000000000000 by omega),zuV,zN (show k<9223372036854775807 by omega),zm (n:=tm+100) (by omega) (by omega)]
end
theorem zui:∀ (n k:Nat) (tm l1 l2 l3 l4 l5 l6 a b v w:Int),k+n=36000->tm=100*k->zlL t stop (v,w,())->∃ T,Lp (zxi (ziD p way t st stops) stop) n ((k:Int),tm,0,l1,l2,l3,l4,l5,l6,a,b,0,0,0,v,w,0,0,0,0,0,0,0,0,0) T∧(match zjZ p way t st stop n tm (l1,l2,l3,l4,l5,l6,()) a b (v,w,()) with | some (g,y)=>zxG T=some (g,y,true) | none=>∃ L X,zxG T=some (L,X,false)):=by
 intro n;induction n with
 | zero =>
  intro k tm l1 l2 l3 l4 l5 l6 a b v w hk htm hx;unfold zjZ;cases ha:zlK t stop (v,w,()) with
  | true =>
   obtain ⟨T,h1,h2⟩:=zoB (stops:=stops) (k:=k) (tm:=tm) (l1:=l1) (l2:=l2) (l3:=l3) (l4:=l4) (l5:=l5) (l6:=l6) (a:=a) (b:=b) hp hw ht hst hS hx ha;exact ⟨T,Lp.done h1,h2⟩
  | false =>
   obtain ⟨T,h1,h2⟩:=zoC (stops:=stops) (k:=k) (tm:=tm) (l1:=l1) (l2:=l2) (l3:=l3) (l4:=l4) (l5:=l5) (l6:=l6) (a:=a) (b:=b) hp hw ht hst hS hx ha (.inl (by omega));exact ⟨T,Lp.done h1,h2⟩
 | succ n ih =>
  intro k tm l1 l2 l3 l4 l5 l6 a b v w hk htm hx;unfold zjZ;cases ha:zlK t stop (v,w,()) with
  | true =>
   obtain ⟨T,h1,h2⟩:=zoB (stops:=stops) (k:=k) (tm:=tm) (l1:=l1) (l2:=l2) (l3:=l3) (l4:=l4) (l5:=l5) (l6:=l6) (a:=a) (b:=b) hp hw ht hst hS hx ha;exact ⟨T,Lp.done h1,h2⟩
  | false =>
   cases hd:zpK p way t st stop (v,w,()) with
   | none =>
    obtain ⟨T,h1,h2⟩:=zoC (stops:=stops) (k:=k) (tm:=tm) (l1:=l1) (l2:=l2) (l3:=l3) (l4:=l4) (l5:=l5) (l6:=l6) (a:=a) (b:=b) hp hw ht hst hS hx ha (.inr hd);exact ⟨T,Lp.done h1,h2⟩
   | some d =>
    have h1:=zxk (stops:=stops) (k:=k) (tm:=tm) (l1:=l1) (l2:=l2) (l3:=l3) (l4:=l4) (l5:=l5) (l6:=l6) (a:=a) (b:=b) hp hw ht hst hS hx ha (by omega) (by omega) hd;obtain ⟨T,h2,h3⟩:=ih (k+1) (tm+100) _ _ _ _ _ _ (max a (zcC p way t st (v,w,()) d).1.2.2.1) (max b (zcC p way t st (v,w,()) d).1.2.2.2.1) (zcC p way t st (v,w,()) d).1.1.1 (zcC p way t st (v,w,()) d).1.1.2.1 (by omega) (by omega) (zlD hp hw ht hst hS hx hd).1;exact ⟨T,Lp.step h1 h2,h3⟩
theorem zzl (hx:zlL t stop x):∃ L X,zbb (ziD p way t st stops) x stop=some (match zjZ p way t st stop 36000 0 (0,0,0,0,0,0,()) 0 0 x with | some (g,y)=>(g,y,true) | none=>(L,X,false)):=by
 obtain ⟨T,h1,h2⟩:=zui (stops:=stops) hp hw ht hst hS 36000 0 0 0 0 0 0 0 0 0 0 x.1 x.2.1 (by omega) (by omega) hx;have hB:=h1.big (by simp only [big]; omega);have e:zbb (ziD p way t st stops) x stop=zxG T:=(congrArg (fun o=>Option.bind o zxG) hB);rw [e];have e2:((x.1,x.2.1,()):zf)=x:=rfl;rw [e2] at h2;cases hl:zjZ p way t st stop 36000 0 (0,0,0,0,0,0,()) 0 0 x with
 | some g=>rw [hl] at h2; exact ⟨default,default,h2⟩
 | none =>
  rw [hl] at h2;obtain ⟨L,X,h2⟩:=h2;exact ⟨L,X,h2⟩
end
end Go.Ai.Sx

/- Motion: the reference's leg. -/
namespace Go.Ai.Sx
def zlE (p_0:Plan) (p_1:List zR) (p_2:Train) (p_3:Int) (p_4:List Int) (i_281:Int) (x286:Int):((Int×Int×Int×Int×Int×Int×Int×Int×Int×Int×Int×Int))->Option (((Int×Int×Int×Int×Int×Int×Int×Int×Int×Int×Int×Int))⊕((Train×zf×Int×(List Int)×Int×Int×Int×Int×Bool×Int×Int×Int×Int×Int×Int×Int×Int×Int×Int×Int)⊕((List Leg)×Bool×Int×Int×Int×Int×Int×Int×Int×Int×Int×Int×Int))):=(fun s371 =>
cond ((decide (s371.2.2.2.2.2.2.2.2.2.2.1>0))) (cond ((s371.1==36000)) (some (.inr ((.inr (([],false,s371.2.1,s371.2.2.1,s371.2.2.2.1,s371.2.2.2.2.1,s371.2.2.2.2.2.1,s371.2.2.2.2.2.2.1,s371.2.2.2.2.2.2.2.1,s371.2.2.2.2.2.2.2.2.1,s371.2.2.2.2.2.2.2.2.2.1,s371.2.2.2.2.2.2.2.2.2.2.1,s371.2.2.2.2.2.2.2.2.2.2.2)))))) (cond ((decide (s371.2.2.2.2.2.2.2.2.2.2.2>10000000000000000))) (some (.inr ((.inr (([],false,s371.2.1,s371.2.2.1,s371.2.2.2.1,s371.2.2.2.2.1,s371.2.2.2.2.2.1,s371.2.2.2.2.2.2.1,s371.2.2.2.2.2.2.2.1,s371.2.2.2.2.2.2.2.2.1,s371.2.2.2.2.2.2.2.2.2.1,s371.2.2.2.2.2.2.2.2.2.2.1,s371.2.2.2.2.2.2.2.2.2.2.2)))))) (Option.bind (zb2 (((p_0,p_1,p_2,p_3,x286,()):zac)) ((s371.2.2.2.2.2.2.2.2.2.2.1,s371.2.2.2.2.2.2.2.2.2.2.2,()))) fun y385 =>
cond ((!y385.2)) (some (.inr ((.inr (([],false,s371.2.1,s371.2.2.1,s371.2.2.2.1,s371.2.2.2.2.1,s371.2.2.2.2.2.1,s371.2.2.2.2.2.2.1,s371.2.2.2.2.2.2.2.1,s371.2.2.2.2.2.2.2.2.1,s371.2.2.2.2.2.2.2.2.2.1,s371.2.2.2.2.2.2.2.2.2.2.1,s371.2.2.2.2.2.2.2.2.2.2.2)))))) (Option.bind (zP p_2 ((s371.2.2.2.2.2.2.2.2.2.2.1,s371.2.2.2.2.2.2.2.2.2.2.2,()))) fun y389 =>
Option.bind (zaX (((p_0,p_1,p_2,p_3,x286,()):zac)) y389) fun y390 =>
Option.bind (zbr p_2 ((s371.2.2.2.2.2.2.2.2.2.2.1,s371.2.2.2.2.2.2.2.2.2.2.2,())) y385.1 y390 p_3) fun y391 =>
Option.bind (zaE p_2 ((s371.2.2.2.2.2.2.2.2.2.2.1,s371.2.2.2.2.2.2.2.2.2.2.2,())) y385.1 y390 p_3) fun y392 =>
Option.bind (zdk ((s371.2.2.1,s371.2.2.2.1,s371.2.2.2.2.1,s371.2.2.2.2.2.1,s371.2.2.2.2.2.2.1,s371.2.2.2.2.2.2.2.1,())) y392.2.1) fun y395 =>
some (.inl (((w64 (s371.1+1)),(w64 (s371.2.1+100)),y395.1,y395.2.1,y395.2.2.1,y395.2.2.2.1,y395.2.2.2.2.1,y395.2.2.2.2.2.1,(max s371.2.2.2.2.2.2.2.2.1 y391.1),(max s371.2.2.2.2.2.2.2.2.2.1 y391.2),y392.1.1,y392.1.2.1))))))) (Option.bind (zP p_2 ((s371.2.2.2.2.2.2.2.2.2.2.1,s371.2.2.2.2.2.2.2.2.2.2.2,()))) fun y396 =>
Option.bind (idx p_4 i_281) fun x397 =>
cond ((decide (y396<(w64 (x397-1000))))) (cond ((s371.1==36000)) (some (.inr ((.inr (([],false,s371.2.1,s371.2.2.1,s371.2.2.2.1,s371.2.2.2.2.1,s371.2.2.2.2.2.1,s371.2.2.2.2.2.2.1,s371.2.2.2.2.2.2.2.1,s371.2.2.2.2.2.2.2.2.1,s371.2.2.2.2.2.2.2.2.2.1,s371.2.2.2.2.2.2.2.2.2.2.1,s371.2.2.2.2.2.2.2.2.2.2.2)))))) (cond ((decide (s371.2.2.2.2.2.2.2.2.2.2.2>10000000000000000))) (some (.inr ((.inr (([],false,s371.2.1,s371.2.2.1,s371.2.2.2.1,s371.2.2.2.2.1,s371.2.2.2.2.2.1,s371.2.2.2.2.2.2.1,s371.2.2.2.2.2.2.2.1,s371.2.2.2.2.2.2.2.2.1,s371.2.2.2.2.2.2.2.2.2.1,s371.2.2.2.2.2.2.2.2.2.2.1,s371.2.2.2.2.2.2.2.2.2.2.2)))))) (Option.bind (zb2 (((p_0,p_1,p_2,p_3,x286,()):zac)) ((s371.2.2.2.2.2.2.2.2.2.2.1,s371.2.2.2.2.2.2.2.2.2.2.2,()))) fun y403 =>
cond ((!y403.2)) (some (.inr ((.inr (([],false,s371.2.1,s371.2.2.1,s371.2.2.2.1,s371.2.2.2.2.1,s371.2.2.2.2.2.1,s371.2.2.2.2.2.2.1,s371.2.2.2.2.2.2.2.1,s371.2.2.2.2.2.2.2.2.1,s371.2.2.2.2.2.2.2.2.2.1,s371.2.2.2.2.2.2.2.2.2.2.1,s371.2.2.2.2.2.2.2.2.2.2.2)))))) (Option.bind (zP p_2 ((s371.2.2.2.2.2.2.2.2.2.2.1,s371.2.2.2.2.2.2.2.2.2.2.2,()))) fun y407 =>
Option.bind (zaX (((p_0,p_1,p_2,p_3,x286,()):zac)) y407) fun y408 =>
Option.bind (zbr p_2 ((s371.2.2.2.2.2.2.2.2.2.2.1,s371.2.2.2.2.2.2.2.2.2.2.2,())) y403.1 y408 p_3) fun y409 =>
Option.bind (zaE p_2 ((s371.2.2.2.2.2.2.2.2.2.2.1,s371.2.2.2.2.2.2.2.2.2.2.2,())) y403.1 y408 p_3) fun y410 =>
Option.bind (zdk ((s371.2.2.1,s371.2.2.2.1,s371.2.2.2.2.1,s371.2.2.2.2.2.1,s371.2.2.2.2.2.2.1,s371.2.2.2.2.2.2.2.1,())) y410.2.1) fun y413 =>
some (.inl (((w64 (s371.1+1)),(w64 (s371.2.1+100)),y413.1,y413.2.1,y413.2.2.1,y413.2.2.2.1,y413.2.2.2.2.1,y413.2.2.2.2.2.1,(max s371.2.2.2.2.2.2.2.2.1 y409.1),(max s371.2.2.2.2.2.2.2.2.2.1 y409.2),y410.1.1,y410.1.2.1))))))) (some (.inr ((.inl ((p_2,(s371.2.2.2.2.2.2.2.2.2.2.1,s371.2.2.2.2.2.2.2.2.2.2.2,()),y396,p_4,i_281,x397,x397,(w64 (x397-1000)),(decide (y396<(w64 (x397-1000)))),s371.2.1,s371.2.2.1,s371.2.2.2.1,s371.2.2.2.2.1,s371.2.2.2.2.2.1,s371.2.2.2.2.2.2.1,s371.2.2.2.2.2.2.2.1,s371.2.2.2.2.2.2.2.2.1,s371.2.2.2.2.2.2.2.2.2.1,s371.2.2.2.2.2.2.2.2.2.2.1,s371.2.2.2.2.2.2.2.2.2.2.2))))))))
def zpL (p_2:Train) (a_281:List Leg) (i_281:Int):((Train×zf×Int×(List Int)×Int×Int×Int×Int×Bool×Int×Int×Int×Int×Int×Int×Int×Int×Int×Int×Int)⊕((List Leg)×Bool×Int×Int×Int×Int×Int×Int×Int×Int×Int×Int×Int))->Option (((List Leg)×Int×Int×Int)⊕(((List Leg)×Int×Int)⊕((List Leg)×Bool))):=fun t414 =>
alt (fun b416=>Option.bind (zP p_2 ((b416.2.2.2.2.2.2.2.2.2.2.2.2.2.2.2.2.2.2.1,b416.2.2.2.2.2.2.2.2.2.2.2.2.2.2.2.2.2.2.2,()))) fun y418 =>
Option.bind (zdJ 80 a_281 ([(b416.2.2.2.2.2.2.2.2.2.1,y418,(b416.2.2.2.2.2.2.2.2.2.2.1,b416.2.2.2.2.2.2.2.2.2.2.2.1,b416.2.2.2.2.2.2.2.2.2.2.2.2.1,b416.2.2.2.2.2.2.2.2.2.2.2.2.2.1,b416.2.2.2.2.2.2.2.2.2.2.2.2.2.2.1,b416.2.2.2.2.2.2.2.2.2.2.2.2.2.2.2.1,()),b416.2.2.2.2.2.2.2.2.2.2.2.2.2.2.2.2.1,b416.2.2.2.2.2.2.2.2.2.2.2.2.2.2.2.2.2.1,())])) fun x419 =>
some (.inl ((x419,(w64 (i_281+1)),b416.2.2.2.2.2.2.2.2.2.2.2.2.2.2.2.2.2.2.1,b416.2.2.2.2.2.2.2.2.2.2.2.2.2.2.2.2.2.2.2)))) (fun b417=>some (.inr ((.inr ((b417.1,b417.2.1)))))) t414
section
variable {p:Plan} {way:List zR} {t:Train} {st:Int} {stops:List Int} {x:zf} (hp:zic p) (hw:zhk p way) (ht:zjQ t) (hst:0≤st∧st<t.2.2.2.2.2.2.2.2.2.1.length) {stop:Int} (hS:stop≤1000000000) {i:Int} (hi:idx stops i=some stop) (hi0:0≤i∧i≤1000000) (hs0:0≤stop)
include hp hw ht hst hS hi hi0 hs0
section
variable {k:Nat} {tm l1 l2 l3 l4 l5 l6 a b v w:Int} (hx:zlL t stop (v,w,()))
include hx
theorem zmU (ha:zlK t stop (v,w,())=true):∃ T,zlE p way t st stops i stop ((k:Int),tm,l1,l2,l3,l4,l5,l6,a,b,v,w)=some (.inr T)∧∀ acc:List Leg,acc.length≤1000000->zpL t acc i T=some (.inl (acc++[(tm,zD t (v,w,()),(l1,l2,l3,l4,l5,l6,()),a,b,())],w64 (i+1),v,w)):=by
 obtain ⟨_,_,e0,h0⟩:=zgl (stops:=stops) (st:=st) (p:=p) (way:=way) ht hS hx;have hs:=hx.s;unfold zlK at ha;rw [Bool.and_eq_true,beq_iff_eq,decide_eq_true_eq] at ha;obtain ⟨ha1,ha2⟩:=ha;have ha1:v=0:=ha1;subst ha1;unfold zlE;simp only [e0,Option.bind_some,decide_eq_false (show ¬ (0:Int)>0 by omega),cond_false,hi,zm (n:=stop-1000) (by omega) (by omega),decide_eq_false (show ¬ zD t (0,w,())<stop-1000 by omega)];refine ⟨_,rfl,fun acc hacc=>?_⟩;unfold zpL;simp only [zbx,e0,Option.bind_some];rw [zbl (by simp; omega),Option.bind_some]
theorem zmV (ha:zlK t stop (v,w,())=false) (hk:k=36000∨zpK p way t st stop (v,w,())=none):∃ T,zlE p way t st stops i stop ((k:Int),tm,l1,l2,l3,l4,l5,l6,a,b,v,w)=some (.inr T)∧∀ acc:List Leg,zpL t acc i T=some (.inr (.inr ([],false))):=by
 obtain ⟨hso,_,e0,h0⟩:=zgl (stops:=stops) (st:=st) (p:=p) (way:=way) ht hS hx;have hs:=hx.s;have hm:=ht.m;have hxw:10*t.1≤w∧w≤1000000000000000:=hx.w;have hxp:0≤v∧v≤25000*t.1:=hx.p;have hc:=zmT hp hw ht hst hx.p (show 10*t.1≤((v,w,()):zf).2.1∧((v,w,()):zf).2.1≤500000000000000000 from ⟨by show _≤w; omega,by show w≤_; omega⟩) stop;unfold zlE;by_cases hv:v=0
 ·subst hv;have hlt:zD t (0,w,())<stop-1000:=by
   unfold zlK at ha;rw [show (((0,w,()):zf).1==0)=true from rfl,Bool.true_and,decide_eq_false_iff_not] at ha;omega
  simp only [e0,Option.bind_some,decide_eq_false (show ¬ (0:Int)>0 by omega),cond_false,hi,zm (n:=stop-1000) (by omega) (by omega),decide_eq_true hlt,cond_true];by_cases hk0:k=36000
  ·subst hk0;exact ⟨_,rfl,fun acc=>rfl⟩
  ·have hkb:((k:Int)==36000)=false:=by simp; omega
   have hd:=hk.resolve_left hk0;rw [hd] at hc;simp only [hkb,cond_false,decide_eq_false (show ¬ w>10000000000000000 by omega),hc,Option.bind_some,Bool.not_false,cond_true];exact ⟨_,rfl,fun acc=>rfl⟩
 ·simp only [decide_eq_true (show v>0 by omega),cond_true];by_cases hk0:k=36000
  ·subst hk0;exact ⟨_,rfl,fun acc=>rfl⟩
  ·have hkb:((k:Int)==36000)=false:=by simp; omega
   have hd:=hk.resolve_left hk0;rw [hd] at hc;simp only [hkb,cond_false,decide_eq_false (show ¬ w>10000000000000000 by omega),hc,Option.bind_some,Bool.not_false,cond_true];exact ⟨_,rfl,fun acc=>rfl⟩
theorem zuj (ha:zlK t stop (v,w,())=false) (hk:k<36000) (htm:0≤tm∧tm≤3600000) {d:Int} (hd:zpK p way t st stop (v,w,())=some d):zlE p way t st stops i stop ((k:Int),tm,l1,l2,l3,l4,l5,l6,a,b,v,w)=some (.inl (((k+1:Nat):Int),tm+100,(znP (l1,l2,l3,l4,l5,l6,()) (zcC p way t st (v,w,()) d).1.2.1).1,(znP (l1,l2,l3,l4,l5,l6,()) (zcC p way t st (v,w,()) d).1.2.1).2.1,(znP (l1,l2,l3,l4,l5,l6,()) (zcC p way t st (v,w,()) d).1.2.1).2.2.1,(znP (l1,l2,l3,l4,l5,l6,()) (zcC p way t st (v,w,()) d).1.2.1).2.2.2.1,(znP (l1,l2,l3,l4,l5,l6,()) (zcC p way t st (v,w,()) d).1.2.1).2.2.2.2.1,(znP (l1,l2,l3,l4,l5,l6,()) (zcC p way t st (v,w,()) d).1.2.1).2.2.2.2.2.1,max a (zcC p way t st (v,w,()) d).1.2.2.1,max b (zcC p way t st (v,w,()) d).1.2.2.2.1,(zcC p way t st (v,w,()) d).1.1.1,(zcC p way t st (v,w,()) d).1.1.2.1)):=by
 obtain ⟨hso,_,e0,h0⟩:=zgl (stops:=stops) (st:=st) (p:=p) (way:=way) ht hS hx;have hs:=hx.s;have hm:=ht.m;have hxw:10*t.1≤w∧w≤1000000000000000:=hx.w;have hxp:0≤v∧v≤25000*t.1:=hx.p;have hc:=zmT hp hw ht hst hx.p (show 10*t.1≤((v,w,()):zf).2.1∧((v,w,()):zf).2.1≤500000000000000000 from ⟨by show _≤w; omega,by show w≤_; omega⟩) stop;have hkb:((k:Int)==36000)=false:=by simp; omega
 rw [hd] at hc;obtain ⟨_,q2,q3⟩:=zjM hd;have hfin:znH t st d (zel p way (zD t (v,w,()))):=⟨hst,by omega,zgk hp hw ht hso _⟩;have hsl:=zfl (st:=st) (stop:=stop) hp hw ht (show 0≤zD t (v,w,())∧zD t (v,w,())≤4000000000000000000 by omega);have hpw:zbr t (v,w,()) d (zel p way (zD t (v,w,()))) st=some ((zcC p way t st (v,w,()) d).1.2.2.1,(zcC p way t st (v,w,()) d).1.2.2.2.1):=zzd ht hfin hso;have hsp:zaE t (v,w,()) d (zel p way (zD t (v,w,()))) st=some ((zcC p way t st (v,w,()) d).1.1,(zcC p way t st (v,w,()) d).1.2.1,(zcC p way t st (v,w,()) d).2):=zln ht hfin hso;have hsm:∀ l m:zam,zdk l m=some (znP l m):=fun l m=>rfl;unfold zlE;by_cases hv:v=0
 ·subst hv;have hlt:zD t (0,w,())<stop-1000:=by
   unfold zlK at ha;rw [show (((0,w,()):zf).1==0)=true from rfl,Bool.true_and,decide_eq_false_iff_not] at ha;omega
  simp only [e0,Option.bind_some,decide_eq_false (show ¬ (0:Int)>0 by omega),cond_false,hi,zm (n:=stop-1000) (by omega) (by omega),decide_eq_true hlt,cond_true,hkb,decide_eq_false (show ¬ w>10000000000000000 by omega),hc,Bool.not_true,hsl,hpw,hsp,hsm,zN (show k<9223372036854775807 by omega),zm (n:=tm+100) (by omega) (by omega)]
 ·simp only [e0,Option.bind_some,decide_eq_true (show v>0 by omega),cond_true,cond_false,hkb,decide_eq_false (show ¬ w>10000000000000000 by omega),hc,Bool.not_true,hsl,hpw,hsp,hsm,zN (show k<9223372036854775807 by omega),zm (n:=tm+100) (by omega) (by omega)]
end
theorem zr9:∀ (n k:Nat) (tm l1 l2 l3 l4 l5 l6 a b v w:Int),k+n=36000->tm=100*k->zlL t stop (v,w,())->∃ T,Lp (zlE p way t st stops i stop) n ((k:Int),tm,l1,l2,l3,l4,l5,l6,a,b,v,w) T∧∀ acc:List Leg,acc.length≤1000000->zpL t acc i T=some (match zjZ p way t st stop n tm (l1,l2,l3,l4,l5,l6,()) a b (v,w,()) with | some (g,y)=>.inl (acc++[g],w64 (i+1),y.1,y.2.1) | none=>.inr (.inr ([],false))):=by
 intro n;induction n with
 | zero =>
  intro k tm l1 l2 l3 l4 l5 l6 a b v w hk htm hx;unfold zjZ;cases ha:zlK t stop (v,w,()) with
  | true =>
   obtain ⟨T,h1,h2⟩:=zmU (k:=k) (tm:=tm) (l1:=l1) (l2:=l2) (l3:=l3) (l4:=l4) (l5:=l5) (l6:=l6) (a:=a) (b:=b) hp hw ht hst hS hi hi0 hs0 hx ha;exact ⟨T,Lp.done h1,h2⟩
  | false =>
   obtain ⟨T,h1,h2⟩:=zmV (k:=k) (tm:=tm) (l1:=l1) (l2:=l2) (l3:=l3) (l4:=l4) (l5:=l5) (l6:=l6) (a:=a) (b:=b) hp hw ht hst hS hi hi0 hs0 hx ha (.inl (by omega));exact ⟨T,Lp.done h1,fun acc _=>h2 acc⟩
 | succ n ih =>
  intro k tm l1 l2 l3 l4 l5 l6 a b v w hk htm hx;unfold zjZ;cases ha:zlK t stop (v,w,()) with
  | true =>
   obtain ⟨T,h1,h2⟩:=zmU (k:=k) (tm:=tm) (l1:=l1) (l2:=l2) (l3:=l3) (l4:=l4) (l5:=l5) (l6:=l6) (a:=a) (b:=b) hp hw ht hst hS hi hi0 hs0 hx ha;exact ⟨T,Lp.done h1,h2⟩
  | false =>
   cases hd:zpK p way t st stop (v,w,()) with
   | none =>
    obtain ⟨T,h1,h2⟩:=zmV (k:=k) (tm:=tm) (l1:=l1) (l2:=l2) (l3:=l3) (l4:=l4) (l5:=l5) (l6:=l6) (a:=a) (b:=b) hp hw ht hst hS hi hi0 hs0 hx ha (.inr hd);exact ⟨T,Lp.done h1,fun acc _=>h2 acc⟩
   | some d =>
    have h1:=zuj (k:=k) (tm:=tm) (l1:=l1) (l2:=l2) (l3:=l3) (l4:=l4) (l5:=l5) (l6:=l6) (a:=a) (b:=b) hp hw ht hst hS hi hi0 hs0 hx ha (by omega) (by omega) hd;obtain ⟨T,h2,h3⟩:=ih (k+1) (tm+100) _ _ _ _ _ _ (max a (zcC p way t st (v,w,()) d).1.2.2.1) (max b (zcC p way t st (v,w,()) d).1.2.2.2.1) (zcC p way t st (v,w,()) d).1.1.1 (zcC p way t st (v,w,()) d).1.1.2.1 (by omega) (by omega) (zlD hp hw ht hst hS hx hd).1;exact ⟨T,Lp.step h1 h2,h3⟩
theorem zxl (hx:zlL t stop x) (acc:List Leg) (hacc:acc.length≤1000000):Option.bind (iter (zlE p way t st stops i stop) big ((0,0,0,0,0,0,0,0,0,0,x.1,x.2.1))) (zpL t acc i)=some (match zjZ p way t st stop 36000 0 (0,0,0,0,0,0,()) 0 0 x with | some (g,y)=>.inl (acc++[g],w64 (i+1),y.1,y.2.1) | none=>.inr (.inr ([],false))):=by
 obtain ⟨T,h1,h2⟩:=zr9 hp hw ht hst hS hi hi0 hs0 36000 0 0 0 0 0 0 0 0 0 0 x.1 x.2.1 (by omega) (by omega) hx;have hB:=h1.big (by simp only [big]; omega);rw [show ((0:Nat):Int)=0 from rfl] at hB;rw [hB,Option.bind_some];exact h2 acc hacc
end
end Go.Ai.Sx

/- Motion: a run begins. -/
namespace Go.Ai.Sx
def zc3 (stops:List Int) (k:Nat):Int:=stops.getD k 0
def zzm (stops:List Int):Bool:=(List.range (stops.length-1)).all fun k=>!decide (zc3 stops (k+1)≤zc3 stops k)
def zeh (p:Plan) (way:List zR) (t:Train) (st:Int) (stops:List Int):Bool :=
 zaG p&&(zjR p way&&(trB t&&(inB st 0 (t.2.2.2.2.2.2.2.2.2.1.length-1)&&(inB (zz stops) 2 100&&(!decide (zc3 stops 0<t.2.1)&&(zzm stops&&decide (zc3 stops (stops.length-1)≤wlS p way)))))))
theorem zoD {stops:List Int} (hl:2≤stops.length∧stops.length≤100) {τ:Type} (r0 r1:τ) {F:Int->Option (Int⊕τ)}
    (hF:∀ s,F s=cond ((decide (s<(zz stops)))) (Option.bind (idx stops s) fun x37 =>
Option.bind (idx stops ((w64 (s-1)))) fun x38 =>
cond ((decide (x37≤x38))) (some (.inr r0)) (some (.inl ((w64 (s+1)))))) (some (.inr r1))):iter F big 1=some (if zzm stops then r1 else r0):=by
  refine zef (fun k=>((k+1:Nat):Int)) (stops.length-1) (fun k=>!decide (zc3 stops (k+1)≤zc3 stops k)) r0 r1 rfl (by simp only [big]; omega) (fun k hk=>?_) ?_
  · rw [hF,zY (show k+1<stops.length by omega),cond_true,zI 0 (by omega),Option.bind_some,show w64 (((k+1:Nat):Int)-1)=(k:Int) by rw [zm (by omega) (by omega)]; omega,zI 0 (by omega),Option.bind_some,zN (by omega)];show cond (decide (zc3 stops (k+1)≤zc3 stops k)) _ _=_;cases decide (zc3 stops (k+1)≤zc3 stops k)<;>rfl
  · rw [hF,show stops.length-1+1=stops.length by omega,z7]; rfl
theorem zlF {A:Type} (n:Nat) (f:Nat->A):rlN (n+1) f=rlN n f++[f n]:=by
 unfold rlN;rw [List.range_succ,List.map_append]; rfl
theorem zsa {stops:List Int} (hl:2≤stops.length∧stops.length≤100):idx stops (w64 (zz stops-1))=some (zc3 stops (stops.length-1)):=by
 rw [zE,show w64 ((stops.length:Int)-1)=((stops.length-1:Nat):Int) by rw [zm (by omega) (by omega)]; omega];exact zI 0 (by omega)
theorem zuk {p:Plan} {way:List zR} {t:Train} (hv:zaG p=true) (hp:zic p) (hw:zhk p way):iter (σ:=(Int×Int×(List Int)×(List Int)×(List Int))) (τ:=((List Int)×(List Int)×(List Int))⊕((Option zav)×Bool×(List Int)×(List Int)×(List Int))) (fun s110 =>
cond ((decide (s110.2.1<(zz way)))) (Option.bind (idx way s110.2.1) fun x113 =>
Option.bind (zbH p x113.1) fun y115 =>
cond ((y115.2 !=0)) (some (.inr ((.inr (((none:Option zav),false,s110.2.2.2.2,s110.2.2.2.1,s110.2.2.1)))))) (Option.bind (idx p.2.1 x113.1) fun x117 =>
cond (x113.2.1) (Option.bind (zdJ 8 s110.2.2.2.2 ([(w64 (s110.1+y115.1))])) fun x126 =>
Option.bind (zdJ 8 s110.2.2.2.1 ([x117.2.2.2.1])) fun x128 =>
Option.bind (zdJ 8 s110.2.2.1 ([(w64 (0-x117.2.2.2.2.1))])) fun x130 =>
some (.inl (((w64 (s110.1+y115.1)),(w64 (s110.2.1+1)),x130,x128,x126)))) (Option.bind (zdJ 8 s110.2.2.2.2 ([(w64 (s110.1+y115.1))])) fun x138 =>
Option.bind (zdJ 8 s110.2.2.2.1 ([x117.2.2.2.1])) fun x140 =>
Option.bind (zdJ 8 s110.2.2.1 ([x117.2.2.2.2.1])) fun x142 =>
some (.inl (((w64 (s110.1+y115.1)),(w64 (s110.2.1+1)),x142,x140,x138)))))) (some (.inr ((.inl ((s110.2.2.2.2,s110.2.2.2.1,s110.2.2.1))))))) big ((0,0,[],[],[]))=some (.inl (zfk p way,zmN p way,zmO p way)):=by
  have hn:=hw.n;have key:∀ (k i:Nat),i+k=way.length->Lp (σ:=(Int×Int×(List Int)×(List Int)×(List Int))) (τ:=((List Int)×(List Int)×(List Int))⊕((Option zav)×Bool×(List Int)×(List Int)×(List Int))) (fun s110 =>
cond ((decide (s110.2.1<(zz way)))) (Option.bind (idx way s110.2.1) fun x113 =>
Option.bind (zbH p x113.1) fun y115 =>
cond ((y115.2 !=0)) (some (.inr ((.inr (((none:Option zav),false,s110.2.2.2.2,s110.2.2.2.1,s110.2.2.1)))))) (Option.bind (idx p.2.1 x113.1) fun x117 =>
cond (x113.2.1) (Option.bind (zdJ 8 s110.2.2.2.2 ([(w64 (s110.1+y115.1))])) fun x126 =>
Option.bind (zdJ 8 s110.2.2.2.1 ([x117.2.2.2.1])) fun x128 =>
Option.bind (zdJ 8 s110.2.2.1 ([(w64 (0-x117.2.2.2.2.1))])) fun x130 =>
some (.inl (((w64 (s110.1+y115.1)),(w64 (s110.2.1+1)),x130,x128,x126)))) (Option.bind (zdJ 8 s110.2.2.2.2 ([(w64 (s110.1+y115.1))])) fun x138 =>
Option.bind (zdJ 8 s110.2.2.2.1 ([x117.2.2.2.1])) fun x140 =>
Option.bind (zdJ 8 s110.2.2.1 ([x117.2.2.2.2.1])) fun x142 =>
some (.inl (((w64 (s110.1+y115.1)),(w64 (s110.2.1+1)),x142,x140,x138)))))) (some (.inr ((.inl ((s110.2.2.2.2,s110.2.2.2.1,s110.2.2.1))))))) k (za8 p way i,(i:Int),rlN i (zf4 p way),rlN i (zjY p way),rlN i (fun j=>za8 p way (j+1))) (.inl (zfk p way,zmN p way,zmO p way)):=by
    intro k;induction k with
    | zero =>
      intro i hi;have:i=way.length:=by omega
      subst this;refine Lp.done ?_;simp only [z7,cond_false];rfl
    | succ k ih =>
      intro i hi;have hil:i<way.length:=by omega
      have hb:=zgj hp hw (i:=i) (by omega);have hb1:=zgj hp hw (i:=i+1) (by omega);have hsx:=zgi p way i;have hml:mvl p way i=zgu p (way.getD i M0).1:=rfl;have hwe:w64 (za8 p way i+zgu p (way.getD i M0).1)=za8 p way (i+1):=by
        rw [← hml,← hsx,zm (by omega) (by omega)]
      obtain ⟨_,hs,hr⟩:=zlA hp hw hil;have hh:zpS p ((way.getD i M0).1,false,())=true:=ziC.2 (hw.m i hil);have hlen:zbH p (way.getD i M0).1=some (zgu p (way.getD i M0).1,0):=by
        rw [zr3,hv,hh]; rfl
      refine Lp.step ?_ (ih (i+1) (by omega));have a1:∀ (f:Nat->Int) (v:Int),v=f i->zdJ 8 (rlN i f) [v]=some (rlN (i+1) f):=fun f v hvf=>by
        rw [zbl (by simp only [zfB,List.length_singleton]; omega),zlF,hvf]
      have z0:((0:Int)!=0)=false:=rfl;simp only [zY hil,cond_true,zI M0 hil,Option.bind_some,hlen,z0,cond_false,hr,hwe,zN (show i<9223372036854775807 by omega)];have a2:=a1 (fun j=>za8 p way (j+1)) (za8 p way (i+1)) rfl;have a3:=a1 (zjY p way) (zgv p way i).2.2.2.1 rfl;simp only [a2,a3,Option.bind_some];unfold zf4 at hs;cases hrv:(way.getD i M0).2.1 with
      | true =>
        rw [hrv] at hs;simp only [if_true] at hs;have e:w64 (0-(zgv p way i).2.2.2.2.1)=zf4 p way i:=by
          unfold zf4;rw [hrv,zm (by omega) (by omega),Int.zero_sub]; rfl
        simp only [a1 (zf4 p way) _ e,Option.bind_some,cond_true,cond_false]
      | false =>
        have e:(zgv p way i).2.2.2.2.1=zf4 p way i:=by
          unfold zf4;rw [hrv]; rfl
        simp only [a1 (zf4 p way) _ e,Option.bind_some,cond_true,cond_false]
  have hL:=(key way.length 0 (by omega)).big (by simp only [big]; omega);exact hL
theorem zoE (p:Plan) (way:List zR) (t:Train) (st:Int) (stops:List Int) (hwl:way.length≤9223372036854775807) (hsl:stops.length≤9223372036854775807):zc7 p way t st stops=some (if zeh p way t st stops then (some (ziD p way t st stops),true) else (none,false)):=by
 unfold zc7 zeh;rw [zrH,Option.bind_some,zie p hwl,Option.bind_some];cases hv:zaG p with
 | false =>
  simp only [Bool.false_and,Bool.false_eq_true,if_false];cases (trB t&&inB st 0 (t.2.2.2.2.2.2.2.2.2.1.length-1))<;>rfl
 | true =>
 cases hwy:zjR p way with
 | false =>
  simp only [Bool.true_and,Bool.false_and,Bool.and_false,Bool.false_eq_true,if_false];cases (trB t&&inB st 0 (t.2.2.2.2.2.2.2.2.2.1.length-1))<;>rfl
 | true =>
 cases htr:trB t with
 | false=>rfl
 | true =>
 cases hin:inB st 0 (t.2.2.2.2.2.2.2.2.2.1.length-1) with
 | false=>rfl
 | true =>
 have hp:=zdg hv;have hw:=zhV hwy;simp only [Bool.true_and,if_true,Bool.not_true,cond_false,show ((0:Int)!=0)=false from rfl,mwithin,Option.bind_some];cases hln:inB (zz stops) 2 100 with
 | false=>rfl
 | true =>
 have hl:=zaH.1 hln;rw [zE] at hl;have hl:2≤stops.length∧stops.length≤100:=by omega
 have h0:idx stops 0=some (zc3 stops 0):=zI (i:=0) 0 (by omega);simp only [Bool.not_true,cond_false,h0,Option.bind_some,zsa hl,Bool.true_and];cases decide (zc3 stops 0<t.2.1) with
 | true=>rfl
 | false =>
 simp only [cond_false,Option.bind_some,Bool.not_false,Bool.true_and];by_cases hgt:zc3 stops (stops.length-1)>wlS p way
 ·rw [decide_eq_true hgt,decide_eq_false (show ¬ zc3 stops (stops.length-1)≤wlS p way by omega),Bool.and_false]; rfl
 ·rw [decide_eq_false hgt,decide_eq_true (show zc3 stops (stops.length-1)≤wlS p way by omega),Bool.and_true,cond_false];rw [zoD (τ:=Unit⊕((Option zav)×Bool)) hl (.inr (none,false)) (.inl ()) (fun s=>rfl),Option.bind_some];cases zzm stops with
  | false=>rfl
  | true =>
   simp only [if_true,zbx,Option.bind_some];have hB:=zuk (t:=t) hv hp hw;exact congrArg (fun o=>Option.bind o fun t144:((List Int)×(List Int)×(List Int))⊕((Option zav)×Bool×(List Int)×(List Int)×(List Int))=>alt (fun b146=>some (((some (((t,st,()),way,b146.1,b146.2.1,b146.2.2,stops,()))),true))) (fun b147=>some ((b147.1,b147.2.1))) t144) hB
theorem zsb (p:Plan) (way:List zR) (t:Train) (st:Int) (stops:List Int) (hwl:way.length≤9223372036854775807) (hsl:stops.length≤9223372036854775807):zdD p way t st stops=some (zeh p way t st stops):=by
 unfold zdD zeh;rw [zhj,Option.bind_some];cases hv:zaG p with
 | false=>rfl
 | true =>
 have hp:=zdg hv;rw [zr0 hp hwl,Option.bind_some];cases hwy:zjR p way with
 | false=>rfl
 | true =>
 have hw:=zhV hwy;rw [ztV,Option.bind_some];cases htr:trB t with
 | false=>rfl
 | true =>
 have ht:=znG.1 htr;simp only [Bool.not_true,cond_false,Option.bind_some,rin,wlen ht,Bool.true_and];cases hin:inB st 0 (t.2.2.2.2.2.2.2.2.2.1.length-1) with
 | false=>rfl
 | true =>
 simp only [Bool.not_true,cond_false,Option.bind_some,Bool.true_and];cases hln:inB (zz stops) 2 100 with
 | false=>rfl
 | true =>
 have hl:=zaH.1 hln;rw [zE] at hl;have hl:2≤stops.length∧stops.length≤100:=by omega
 have h0:idx stops 0=some (zc3 stops 0):=zI (i:=0) 0 (by omega);simp only [Bool.not_true,cond_false,h0,Option.bind_some,zsa hl,Bool.true_and];cases decide (zc3 stops 0<t.2.1) with
 | true=>rfl
 | false =>
 simp only [cond_false,Option.bind_some,Bool.not_false,Bool.true_and];rw [zoD (τ:=Unit⊕Bool) hl (.inr false) (.inl ()) (fun s=>rfl),Option.bind_some];cases zzm stops with
 | false=>rfl
 | true =>
  simp only [if_true,zbx,Option.bind_some,zuT hp hw,Bool.true_and]
end Go.Ai.Sx

/- Motion: all legs. -/
namespace Go.Ai.Sx
def zul (p_2:Train) (y1:Option zav) (x7:List Int):((List Leg)×Int×Int×Int)->Option (((List Leg)×Int×Int×Int)⊕(((List Leg)×Int×Int)⊕((List Leg)×Int×Int×Int))):=(fun s32 =>
cond ((decide (s32.2.1<(zz x7)))) (Option.bind (idx x7 s32.2.1) fun x35 =>
Option.bind (y1) fun p36 =>
Option.bind (zbb p36 ((s32.2.2.1,s32.2.2.2,())) x35) fun y37 =>
cond ((!y37.2.2)) (some (.inr ((.inr (([],4,s32.2.2.1,s32.2.2.2)))))) (cond ((decide (s32.2.2.2>10000000000000000))) (some (.inr ((.inr (([],4,s32.2.2.1,s32.2.2.2)))))) (Option.bind (zdJ 80 s32.1 ([y37.1])) fun x44 =>
some (.inl ((x44,(w64 (s32.2.1+1)),y37.2.1.1,y37.2.1.2.1)))))) (some (.inr ((.inl ((s32.1,s32.2.2.1,s32.2.2.2)))))))
def zoF (p_0:Plan) (p_1:List zR) (p_2:Train) (p_3:Int) (p_4:List Int):((List Leg)×Int×Int×Int)->Option (((List Leg)×Int×Int×Int)⊕(((List Leg)×Int×Int)⊕((List Leg)×Bool))):=fun s281 =>
cond ((decide (s281.2.1<(zz p_4)))) (Option.bind (idx p_4 s281.2.1) fun x286 =>
Option.bind (iter (zlE p_0 p_1 p_2 p_3 p_4 s281.2.1 x286) big ((0,0,0,0,0,0,0,0,0,0,s281.2.2.1,s281.2.2.2))) (zpL p_2 s281.1 s281.2.1)) (some (.inr ((.inl ((s281.1,s281.2.2.1,s281.2.2.2))))))
section
variable (p:Plan) (way:List zR) (t:Train) (st:Int)
def zjS:List Int->zf->Option (List Leg×zf)
 | [],x=>some ([],x)
 | s::r,x=>match zjZ p way t st s 36000 0 (0,0,0,0,0,0,()) 0 0 x with
  | none=>none
  | some (g,y)=>match zjS r y with
   | none=>none
   | some (gs,z)=>some (g::gs,z)
end
structure RunOk (p:Plan) (way:List zR) (t:Train) (st:Int) (stops:List Int):Prop where
 hp:zic p
 hw:zhk p way
 ht:zjQ t
 hst:0≤st∧st<t.2.2.2.2.2.2.2.2.2.1.length
 hn:2≤stops.length∧stops.length≤100
 h0:t.2.1≤zc3 stops 0
 up:∀ k,k+1<stops.length->zc3 stops k<zc3 stops (k+1)
 la:zc3 stops (stops.length-1)≤wlS p way
 b:wlS p way≤248000000
section
variable {p:Plan} {way:List zR} {t:Train} {st:Int} {stops:List Int} (R:RunOk p way t st stops)
include R
theorem zoG {i j:Nat} (h:i≤j) (hj:j<stops.length):zc3 stops i≤zc3 stops j:=by
 induction j with
 | zero=>rw [show i=0 by omega]; omega
 | succ j ih =>
  by_cases e:i=j+1
  ·subst e; omega
  ·have h1:=ih (by omega) (by omega);have h2:=R.up j hj;omega
theorem zsc {i:Nat} (hi:i<stops.length):1≤zc3 stops i∧zc3 stops i≤248000000:=by
 have h1:=zoG R (Nat.zero_le i) hi;have h2:=zoG R (i:=i) (j:=stops.length-1) (by omega) (by omega);have:=R.h0;have:=R.la;have:=R.b;have:=R.ht.len;omega
theorem zoH {stop:Int} (hS:stop≤1000000000):∀ (n:Nat) (tm:Int) (l:zam) (a b:Int) (x:zf) (g:Leg) (y:zf),zlL t stop x->zjZ p way t st stop n tm l a b x=some (g,y)->zlL t stop y:=by
 intro n;induction n with
 | zero =>
  intro tm l a b x g y hx h;unfold zjZ at h;split at h
  ·cases h; exact hx
  ·cases h
 | succ n ih =>
  intro tm l a b x g y hx h;unfold zjZ at h;split at h
  ·cases h; exact hx
  ·cases hd:zpK p way t st stop x with
   | none=>rw [hd] at h; cases h
   | some d =>
    rw [hd] at h;exact ih _ _ _ _ _ _ _ (zlD R.hp R.hw R.ht R.hst hS hx hd).1 h
theorem zlL.up {s s':Int} {x:zf} (h:zlL t s x) (hs:s≤s'):zlL t s' x:=⟨h.p,h.w,by have:=h.s; omega⟩
theorem zzn {i:Nat} (h:i+1<stops.length):stops.drop (i+1)=zc3 stops (i+1)::stops.drop (i+2):=by
 rw [List.drop_eq_getElem_cons h];congr 1;unfold zc3;simp [h]
theorem zum:∀ (k i:Nat) (acc:List Leg) (x:zf),i+k+1=stops.length->acc.length≤i->zlL t (zc3 stops i) x->∃ T,Lp (zul t (some (ziD p way t st stops)) (stops.drop 1)) k (acc,(i:Int),x.1,x.2.1) T∧(match zjS p way t st (stops.drop (i+1)) x with | some (gs,z)=>T=.inl (acc++gs,z.1,z.2.1) | none=>∃ v w,T=.inr ([],4,v,w)):=by
 have hn:=R.hn;intro k;induction k with
 | zero =>
  intro i acc x hi hacc hx;refine ⟨.inl (acc,x.1,x.2.1),Lp.done ?_, ?_⟩
  ·unfold zul;have:(stops.drop 1).length=i:=by rw [List.length_drop]; omega
   subst this;simp only [z7,cond_false]
  ·rw [List.drop_of_length_le (by omega)];unfold zjS;simp only [List.append_nil]
 | succ k ih =>
  intro i acc x hi hacc hx;have hi1:i+1<stops.length:=by omega
  have hb:=zsc R hi1;have hup:=R.up i hi1;have hxn:=zlL.up R hx (s':=zc3 stops (i+1)) (by omega);have hw:x.2.1≤1000000000000000:=hx.w.2;have hdl:(stops.drop 1).length=stops.length-1:=by rw [List.length_drop]
  have hix:idx (stops.drop 1) (i:Int)=some (zc3 stops (i+1)):=by
   rw [zI 0 (by omega)];congr 1;unfold zc3;simp [List.getD,Nat.add_comm]
  rw [zzn R hi1];obtain ⟨L,X,hleg⟩:=zzl (stops:=stops) R.hp R.hw R.ht R.hst (stop:=zc3 stops (i+1)) (by omega) hxn;unfold zjS;cases hl:zjZ p way t st (zc3 stops (i+1)) 36000 0 (0,0,0,0,0,0,()) 0 0 x with
  | none =>
   rw [hl] at hleg;refine ⟨.inr ([],4,x.1,x.2.1),Lp.done ?_,⟨_,_,rfl⟩⟩;unfold zul;simp only [zY (show i<(stops.drop 1).length by omega),cond_true,hix,Option.bind_some];show (Option.bind (zbb (ziD p way t st stops) x (zc3 stops (i+1))) _:Option _)=_;rw [hleg]; rfl
  | some gy =>
   obtain ⟨g,y⟩:=gy;rw [hl] at hleg;have hy:=zoH R (by omega) _ _ _ _ _ _ _ _ hxn hl;obtain ⟨T,h1,h2⟩:=ih (i+1) (acc++[g]) y (by omega) (by simp; omega) hy;refine ⟨T,Lp.step ?_ h1, ?_⟩
   ·unfold zul;simp only [zY (show i<(stops.drop 1).length by omega),cond_true,hix,Option.bind_some];show (Option.bind (zbb (ziD p way t st stops) x (zc3 stops (i+1))) _:Option _)=_;rw [hleg,Option.bind_some];simp only [Bool.not_true,cond_false,decide_eq_false (show ¬ x.2.1>10000000000000000 by omega)];rw [zbl (by simp; omega),Option.bind_some,zN (by omega)]
   ·simp only [];rw [show i+1+1=i+2 by omega] at h2;cases hd:zjS p way t st (stops.drop (i+2)) y with
    | none=>rw [hd] at h2; exact h2
    | some gz =>
     rw [hd] at h2;simp only [] at h2 ⊢;rw [h2,List.append_assoc]; rfl
theorem zsd:∀ (k i:Nat) (acc:List Leg) (x:zf),i+k+1=stops.length->acc.length≤i->zlL t (zc3 stops i) x->∃ T,Lp (zoF p way t st stops) k (acc,((i+1:Nat):Int),x.1,x.2.1) T∧(match zjS p way t st (stops.drop (i+1)) x with | some (gs,z)=>T=.inl (acc++gs,z.1,z.2.1)∧z.2.1≤1000000000000000 | none=>T=.inr ([],false)):=by
 have hn:=R.hn;intro k;induction k with
 | zero =>
  intro i acc x hi hacc hx;refine ⟨.inl (acc,x.1,x.2.1),Lp.done ?_, ?_⟩
  ·unfold zoF;have:stops.length=i+1:=by omega
   rw [← this];simp only [z7,cond_false]
  ·rw [List.drop_of_length_le (by omega)];unfold zjS;simp only [List.append_nil];exact ⟨trivial,hx.w.2⟩
 | succ k ih =>
  intro i acc x hi hacc hx;have hi1:i+1<stops.length:=by omega
  have hb:=zsc R hi1;have hup:=R.up i hi1;have hxn:=zlL.up R hx (s':=zc3 stops (i+1)) (by omega);have hw:x.2.1≤1000000000000000:=hx.w.2;have hix:idx stops ((i+1:Nat):Int)=some (zc3 stops (i+1)):=zI 0 hi1;rw [zzn R hi1];have hleg:=zxl (stops:=stops) (i:=((i+1:Nat):Int)) R.hp R.hw R.ht R.hst (stop:=zc3 stops (i+1)) (by omega) hix (by omega) (by omega) hxn acc (by omega);unfold zjS;cases hl:zjZ p way t st (zc3 stops (i+1)) 36000 0 (0,0,0,0,0,0,()) 0 0 x with
  | none =>
   rw [hl] at hleg;refine ⟨.inr ([],false),Lp.done ?_,rfl⟩;unfold zoF;simp only [zY hi1,cond_true,hix,Option.bind_some];exact hleg
  | some gy =>
   obtain ⟨g,y⟩:=gy;rw [hl] at hleg;have hy:=zoH R (by omega) _ _ _ _ _ _ _ _ hxn hl;obtain ⟨T,h1,h2⟩:=ih (i+1) (acc++[g]) y (by omega) (by simp; omega) hy;refine ⟨T,Lp.step ?_ h1, ?_⟩
   ·unfold zoF;simp only [zY hi1,cond_true,hix,Option.bind_some];rw [zN (by omega)] at hleg;exact hleg
   ·simp only [];rw [show i+1+1=i+2 by omega] at h2;cases hd:zjS p way t st (stops.drop (i+2)) y with
    | none=>rw [hd] at h2; exact h2
    | some gz =>
     rw [hd] at h2;simp only [] at h2 ⊢;refine ⟨?_,h2.2⟩;rw [h2.1,List.append_assoc]; rfl
def st0 (t:Train) (stops:List Int):zf:=(0,10*t.1*zc3 stops 0,())
theorem zoI:w64 (w64 (10*t.1)*zc3 stops 0)=(st0 t stops).2.1∧zlL t (zc3 stops 0) (st0 t stops):=by
 have hm:=R.ht.m;have hn:=R.hn;have hb:=zsc R (i:=0) (by omega);have h1:=zb3 (a:=10*t.1) (b:=zc3 stops 0) (A:=800000) (B:=248000000) ⟨by omega,by omega⟩ ⟨by omega,by omega⟩;refine ⟨?_,⟨by show (0:Int)≤0; omega,by show (0:Int)≤_; omega⟩,⟨?_,by show 10*t.1*zc3 stops 0≤_; omega⟩, ?_⟩
 ·rw [zm (n:=10*t.1) (by omega) (by omega),zm (by omega) (by omega)]; rfl
 ·show 10*t.1≤10*t.1*zc3 stops 0;have h9:10*t.1*1≤10*t.1*zc3 stops 0:=Int.mul_le_mul_of_nonneg_left hb.1 (by omega);omega
 ·show 10*t.1*zc3 stops 0/(10*t.1)≤zc3 stops 0;rw [Int.mul_ediv_cancel_left _ (by omega)];omega
def zgq (p:Plan) (way:List zR) (t:Train) (st:Int) (stops:List Int):Option (List Leg):=(zjS p way t st (stops.drop 1) (st0 t stops)).map (·.1)
theorem zse (hsb:zeh p way t st stops=true):zbI p way t st stops=some (match zgq p way t st stops with | some gs=>(gs,0) | none=>([],4)):=by
 have hn:=R.hn;have hw:=R.hw.n;unfold zbI;rw [zoE p way t st stops (by omega) (by omega),hsb];simp only [if_true,Option.bind_some,Bool.not_true,cond_false];have h0:idx stops 0=some (zc3 stops 0):=zI (i:=0) 0 (by omega);have hsl:slO stops 1 (zz stops)=some (stops.drop 1):=by
  rw [ztR (by rw [zE]; omega),zE];simp
 rw [h0,Option.bind_some,hsl,Option.bind_some,(zoI R).1];obtain ⟨T,h1,h2⟩:=zum R (stops.length-1) 0 [] (st0 t stops) (by omega) (by simp) (zoI R).2;have hB:=h1.big (by simp only [big]; omega);refine (congrArg (fun o=>Option.bind o fun t46:((List Leg)×Int×Int)⊕((List Leg)×Int×Int×Int)=>alt (fun b48=>some ((b48.1,(0:Int)))) (fun b49=>some ((b49.1,b49.2.1))) t46) hB).trans ?_;rw [Option.bind_some];unfold zgq;rw [Nat.zero_add] at h2;cases hd:zjS p way t st (stops.drop 1) (st0 t stops) with
 | some gz =>
  rw [hd] at h2;simp only [] at h2;rw [h2]; rfl
 | none =>
  rw [hd] at h2;obtain ⟨v,w,h2⟩:=h2;rw [h2]; rfl
theorem zpM:zdE p way t st stops=some (match zgq p way t st stops with | some gs=>(gs,true) | none=>([],false)):=by
 have hn:=R.hn;have hw:=R.hw.n;have h0:idx stops 0=some (zc3 stops 0):=zI (i:=0) 0 (by omega);obtain ⟨T,h1,h2⟩:=zsd R (stops.length-1) 0 [] (st0 t stops) (by omega) (by simp) (zoI R).2;have hB:=h1.big (by simp only [big]; omega);rw [← (zoI R).1] at hB;unfold zdE;rw [h0,Option.bind_some];refine (congrArg (fun o=>Option.bind o fun t421:((List Leg)×Int×Int)⊕((List Leg)×Bool)=>alt (fun b423=>some ((b423.1,(decide (b423.2.2≤10000000000000000))))) (fun b424=>some ((b424.1,b424.2))) t421) hB).trans ?_;rw [Option.bind_some];unfold zgq;rw [Nat.zero_add] at h2;cases hd:zjS p way t st (stops.drop 1) (st0 t stops) with
 | some gz =>
  rw [hd] at h2;simp only [] at h2;rw [h2.1];simp only [zbx,decide_eq_true (show gz.2.2.1≤10000000000000000 by have:=h2.2; omega)];rfl
 | none =>
  rw [hd] at h2;simp only [] at h2;rw [h2]; rfl
end
end Go.Ai.Sx

/- Motion: the law of the drive. -/
namespace Go.Ai.Sx
theorem zsf {l:List Leg} (hl:l.length≤1000):zaM l (fun x=>zc8 x)=some (l.map (·.1)):=by
  unfold zaM;have hL:=zcj (f:=fun s7:List Int×Int =>
cond ((decide (s7.2<(zz l)))) (Option.bind (idx l s7.2) fun x10 =>
Option.bind (zc8 x10) fun y12 =>
Option.bind (zdJ 8 s7.1 ([y12])) fun x13 =>
some (.inl ((x13,(w64 (s7.2+1)))))) (some (.inr s7.1))) l (fun i b=>(b,(i:Int))) (fun _ b c=>(.inl (b++[c.1]):List Int⊕List Int)) (fun b=>b) (fun i b=>b.length=i) [] (s0:=([],0)) rfl (by omega) rfl (fun i h b hb=>by
      refine ⟨?_,fun b' hb'=>?_⟩
      · simp only [];rw [zY h,cond_true,ze3,List.getElem?_eq_getElem h,Option.bind_some];show (Option.bind (some l[i].1) _:Option _)=_;rw [Option.bind_some,zbl (by simp; omega),Option.bind_some,zN (by omega)]
      · cases hb'; simp; omega) (fun b _=>by simp only [z7,cond_false])
  rw [hL,zex,Option.bind_some];have:∀ (l:List Leg) (b:List Int),l.foldl (fun b c=>b++[c.1]) b=b++l.map (·.1):=by
    intro l;induction l with
    | nil=>intro b; simp
    | cons a l ih=>intro b; rw [List.foldl_cons,ih]; simp
  rw [this]; rfl
theorem zsg {p:Plan} {way:List zR} {t:Train} {st:Int} {stops:List Int} {gs:List Leg} {e:Int} (h:zbI p way t st stops=some (gs,e)) (hl:gs.length≤1000):zbv p way t st stops=some (if e=0 then (gs.map (·.1),0) else ([],e)):=by
 unfold zbv;rw [h,Option.bind_some];by_cases h0:e=0
 ·subst h0;simp only [show ((0:Int)!=0)=false from rfl,cond_false,zsf hl,Option.bind_some];rfl
 ·have hb:(e !=0)=true:=by simpa using h0
  simp only [hb,cond_true];rw [if_neg h0]
section
variable {p:Plan} {way:List zR} {t:Train} {st:Int} {stops:List Int} (R:RunOk p way t st stops)
include R
omit R in
theorem zoJ:∀ {r:List Int} {x:zf} {gs:List Leg} {z:zf},zjS p way t st r x=some (gs,z)->gs.length=r.length
 | [],x,gs,z,h=>by unfold zjS at h; cases h; rfl
 | s::r,x,gs,z,h=>by
  unfold zjS at h;cases hl:zjZ p way t st s 36000 0 (0,0,0,0,0,0,()) 0 0 x with
  | none=>rw [hl] at h; cases h
  | some gy =>
   rw [hl] at h;simp only [] at h;cases hd:zjS p way t st r gy.2 with
   | none=>rw [hd] at h; cases h
   | some q =>
    rw [hd] at h;cases h;have:=zoJ hd;simp [this]
theorem zlG {gs:List Leg} (h:zgq p way t st stops=some gs):gs.length=stops.length-1:=by
 unfold zgq at h;cases hd:zjS p way t st (stops.drop 1) (st0 t stops) with
 | none=>rw [hd] at h; cases h
 | some q =>
  rw [hd] at h;cases h;rw [zoJ hd,List.length_drop]
end
end Go.Ai.Sx

/- Motion: a run's times,for callers in other chapters. -/
namespace Go.Ai.Sx
theorem zhY {p:Plan} {way:List zR} {t:Train} {st:Int} {stops:List Int} (h:zeh p way t st stops=true) (hb:wlS p way≤248000000):RunOk p way t st stops:=by
 unfold zeh at h;simp only [Bool.and_eq_true] at h;obtain ⟨h1,h2,h3,h4,h5,h6,h7,h8⟩:=h;have hp:=zdg h1;have hw:=zhV h2;have h4:=zaH.1 h4;have h5:=zaH.1 h5;rw [zE] at h5;refine ⟨hp,hw,znG.1 h3,by omega,by omega, ?_,fun k hk=>?_,of_decide_eq_true h8,hb⟩
 ·rw [Bool.not_eq_true',decide_eq_false_iff_not] at h6; omega
 ·unfold zzm at h7;have:=List.all_eq_true.1 h7 k (List.mem_range.2 (by omega));rw [Bool.not_eq_true',decide_eq_false_iff_not] at this; omega
theorem zsh {p:Plan} {way:List zR} {t:Train} {st:Int} {stops:List Int} (hwl:way.length≤9223372036854775807) (hsl:stops.length≤9223372036854775807) (h:zeh p way t st stops=false):zbI p way t st stops=some ([],2):=by
 unfold zbI;rw [zoE p way t st stops hwl hsl,h];rfl
theorem zxm {p:Plan} {way:List zR} {t:Train} {st:Int} {stops:List Int} (h:zeh p way t st stops=true) (hb:wlS p way≤248000000):zbv p way t st stops=some (match zgq p way t st stops with | some gs=>(gs.map (·.1),0) | none=>([],4)):=by
 have R:=zhY h hb;have hn:=R.hn;have hd:=zse R h;cases hl:zgq p way t st stops with
 | none =>
  rw [hl] at hd;simp only [] at hd;rw [zsg hd (by simp)]; rfl
 | some gs =>
  rw [hl] at hd;simp only [] at hd;have hlen:=zlG R hl;rw [zsg hd (by omega)]; rfl
theorem zzo {p:Plan} {way:List zR} {t:Train} {st:Int} {stops:List Int} (hwl:way.length≤9223372036854775807) (hsl:stops.length≤9223372036854775807) (h:zeh p way t st stops=false):zbv p way t st stops=some ([],2):=by
 rw [zsg (zsh hwl hsl h) (by simp)]; rfl
end Go.Ai.Sx

/- Motion: how long legs take. -/
namespace Go.Ai.Sx
section
variable {p:Plan} {way:List zR} {t:Train} {st:Int} {stops:List Int}
theorem zuW {stop:Int}:∀ (n:Nat) (tm:Int) (l:zam) (a b:Int) (x:zf) (g:Leg) (y:zf),zjZ p way t st stop n tm l a b x=some (g,y)->tm≤g.1∧g.1≤tm+100*n
 | 0,tm,l,a,b,x,g,y,h=>by
  unfold zjZ at h;split at h
  ·cases h; simp
  ·cases h
 | n+1,tm,l,a,b,x,g,y,h=>by
  unfold zjZ at h;split at h
  ·cases h; simp only []; omega
  ·split at h
   ·cases h
   ·have:=zuW n _ _ _ _ _ _ _ h;omega
theorem zuX:∀ {r:List Int} {x:zf} {gs:List Leg} {z:zf},zjS p way t st r x=some (gs,z)->∀ g∈gs,0≤g.1∧g.1≤3600000
 | [],x,gs,z,h=>by unfold zjS at h; cases h; simp
 | s::r,x,gs,z,h=>by
  unfold zjS at h;cases hl:zjZ p way t st s 36000 0 (0,0,0,0,0,0,()) 0 0 x with
  | none=>rw [hl] at h; cases h
  | some gy =>
   rw [hl] at h;simp only [] at h;cases hd:zjS p way t st r gy.2 with
   | none=>rw [hd] at h; cases h
   | some q =>
    rw [hd] at h;cases h;intro g hg;rcases List.mem_cons.1 hg with rfl | hg
    ·have:=zuW 36000 0 _ _ _ _ gy.1 gy.2 hl;omega
    ·exact zuX hd g hg
theorem zxn {gs:List Leg} (h:zgq p way t st stops=some gs):∀ g∈gs,0≤g.1∧g.1≤3600000:=by
 unfold zgq at h;cases hd:zjS p way t st (stops.drop 1) (st0 t stops) with
 | none=>rw [hd] at h; cases h
 | some q =>
  rw [hd] at h;cases h;exact zuX hd
end
end Go.Ai.Sx

/- Service: numbers modulo others,departures. -/
namespace Go.Ai.Sx
theorem zxo {r h:Int} (hh:0<h):((r+h-1)/h-1)*h<r∧r≤(r+h-1)/h*h:=by
 have h1:=Int.emod_add_mul_ediv (r+h-1) h;have h2:=Int.emod_nonneg (r+h-1) (show h≠0 by omega);have h3:=Int.emod_lt_of_pos (r+h-1) hh;rw [Int.sub_mul,Int.one_mul,Int.mul_comm ((r+h-1)/h) h];omega
end Go.Ai.Sx
