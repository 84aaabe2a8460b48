/- The duties: the number of links that a beginning allows. -/
import Derived.Test.YtnngmijajnldlaaGreatX16
import Derived.Test.YtnngmijajnldlaaGreatX15
set_option linter.unusedSimpArgs false
set_option linter.unusedVariables false
set_option linter.unusedSectionVars false
open Option renaming some→Ob,none→Oe
open Bool renaming false→Oc,true→Od
open Option renaming bind->Zb,bind_some->Zs
namespace Go.Ai.Sx
def zhD (n:Nat) (l:List Int):Nat:=l.countP λx=>decide (x<(n:Int))
theorem zgo {A:Type} {l:List A} {i:Nat} {d:A} (h:i<l.length):l.getD i d∈l:=by simp [List.getD,h]
structure Usd (n:Nat) (fixed:List Int) (used:List Bool):Prop where
 l:used.length=n
 u:∀ b,InR n b->(sb used b=Od↔b∈fixed)
structure zCN (n:Nat) (fixed:List Int) (s:Int×Int×List Bool):Prop where
 lo:0<=s.2.1
 hi:s.2.1<=fixed.length
 us:Usd n (fixed.take s.2.1.toNat) s.2.2
 c:s.1=(zhD n (fixed.take s.2.1.toNat):Nat)
structure zCO (n:Nat) (g:Int->Int->Bool) (used:List Bool) (f c0:Nat) (s:Int×Int×List Bool×List Int):Prop where
 lo:(f:Int)<=s.2.1
 hi:s.2.1<=n
 ok:ztZ n g used s.2.2.2
 most:Most (ztY n g used) (λx=>(f:Int)<=x/\x<s.2.1) (pr s.2.2.2)
 c:s.1=(c0:Int)+zh4 s.2.2.2
 small:(zh4 s.2.2.2:Int)<=s.2.1-f
theorem zq9 {n:Nat} {g:Int->Int->Bool} {w:zae} (hw:w.1.length=n) (hfol:∀ a b,InR n a->InR n b->zG w a b=Ob (g a b)) (hlt:∀ a b,g a b=Od->a<b) (hn:n<1000) {fixed:List Int} (hf:∀ x∈fixed,0<=x/\x<=n) (hfl:fixed.length<=n) :
    ∃ used mt,Usd n fixed used/\ztZ n g used mt/\Most (ztY n g used) (λx=>(fixed.length:Int)<=x/\x<n) (pr mt)/\zaY w fixed=Ob ((zhD n fixed:Int)+zh4 mt):=by
  suffices hs:Tot (λr=>∃ used mt,Usd n fixed used/\ztZ n g used mt/\Most (ztY n g used) (λx=>(fixed.length:Int)<=x/\x<n) (pr mt)/\r=(zhD n fixed:Int)+zh4 mt) (zaY w fixed) by
    obtain ⟨r,h1,used,mt,h2,h3,h4,rfl⟩:=hs;exact ⟨used,mt,h2,h3,h4,h1⟩
  unfold zaY;have hl:zq w.1=n:=by rw [zo,hw]
  have hm1:mkO 8 (n:Int) (0:Int)=Ob (List.replicate n 0):=by rw [zgH J]; simp
  have hm2:mkO 1 (n:Int) (Oc:Bool)=Ob (List.replicate n Oc):=by rw [zgH J]; simp
  simp only [hm1,hm2,Zs,hl];have hlr:zq (List.replicate n (0:Int))=n:=by simp [zo]
  refine Tot.bind (Q:=λt:List Int=>t.length=n/\∀ b,InR n b->mb t b=-1) (Tot.iter (λs:Int×List Int=>0<=s.1/\s.1<=n/\s.2.length=n/\∀ b,InR n b->b<s.1->mb s.2 b=-1) _ (λs=>n-s.1.toNat) ?_ (by first | (simp only [big]; omega) | omega) ?_) ?_
  · exact ⟨Int.le_refl _,Int.natCast_nonneg _,List.length_replicate,λb hb h=>absurd h (Int.not_lt.2 hb.1)⟩
  · rintro ⟨i,l⟩ ⟨h1,h2,h3,h4⟩
    simp only [] at h1 h2 h3 h4;simp only [hlr];by_cases hi:i<n
    · have hw2:w64 (i+1)=i+1:=zk J J;simp only [decide_eq_true hi,cond_true,zaV (d:=(0:Int)) h1 (show i<(l.length:Int) by omega),Zs,hw2];refine Tot.some ⟨⟨by simp only []; omega,by simp only []; omega,by simp only [List.length_set]; exact h3,λb hb hlt=>?_⟩,by simp only []; omega⟩;simp only [] at hlt ⊢;rw [zfg h3 ⟨h1,hi⟩ hb];split
      · rfl
      · exact h4 b hb J
    · simp only [decide_eq_false hi,cond_false];exact Tot.some ⟨h3,λb hb=>h4 b hb (by unfold InR at hb; omega)⟩
  rintro mt0 ⟨hl0,hv0⟩
  refine Tot.bind (Q:=λt:Int×List Bool=>Usd n fixed t.2/\t.1=(zhD n fixed:Nat)) (Tot.iter (zCN n fixed) _ (λs=>fixed.length-s.2.1.toNat) ?_ (by first | (simp only [big]; omega) | omega) ?_) ?_
  · exact ⟨Int.le_refl _,by simp only []; omega,⟨by simp,λb hb=>by simp [sb,List.getD,List.getElem?_replicate]; split<;>simp⟩,by simp [zhD]⟩
  · rintro ⟨c,j,us⟩ h
    have h1:=h.lo;have h2:=h.hi;have h3:=h.us.l;have h4:=h.c;simp only [] at h1 h2 h3 h4;have hcl:zhD n (fixed.take j.toNat)<=fixed.length:=Nat.le_trans List.countP_le_length Oj;by_cases hj:j<fixed.length
    · have hw2:w64 (j+1)=j+1:=zk J J;have hw3:w64 (c+1)=c+1:=zk J J;have hjn:j.toNat<fixed.length:=J
      have hx:=hf _ (zgo (d:=(0:Int)) hjn);have htk:fixed.take (j+1).toNat=fixed.take j.toNat++[fixed.getD j.toNat 0]:=by
        rw [show (j+1).toNat=j.toNat+1 by omega,List.take_add_one];simp [List.getD,hjn]
      have hidx:=zaV (d:=(0:Int)) h1 hj;obtain ⟨xj,hxj⟩:∃ v,fixed.getD j.toNat 0=v:=⟨_,rfl⟩;rw [hxj] at hx htk hidx;simp only [decide_eq_true (show j<zq fixed from hj),cond_true,hidx,Zs,hw2,hw3];by_cases hr:xj<n
      · simp only [decide_eq_true hr,cond_true,zaV (d:=Oc) hx.1 (show xj<(us.length:Int) by omega),Zs];refine Tot.some ⟨⟨by simp only []; omega,by simp only []; omega,⟨by simp only [List.length_set]; exact h3,λb hb=>?_⟩, ?_⟩,by simp only []; omega⟩
        · simp only [];rw [zoe h3 ⟨hx.1,hr⟩ hb,htk,List.mem_append,List.mem_singleton];have:=h.us.u b hb;simp only [] at this;split
          · rename_i e; simp [e]
          · rename_i e;rw [this];constructor
            · exact .inl
            · rintro (h | h)
              · exact h
              · exact (e h.symm).elim
        · simp only [];rw [htk];unfold zhD at h4 ⊢;rw [List.countP_append,h4];simp [List.countP_cons,hr]
      · simp only [decide_eq_false hr,cond_false];refine Tot.some ⟨⟨by simp only []; omega,by simp only []; omega,⟨h3,λb hb=>?_⟩, ?_⟩,by simp only []; omega⟩
        · simp only [];rw [htk,List.mem_append,List.mem_singleton];have:=h.us.u b hb;simp only [] at this;rw [this];unfold InR at hb;constructor
          · exact .inl
          · rintro (h | h)
            · exact h
            · omega
        · simp only [];rw [htk];unfold zhD at h4 ⊢;rw [List.countP_append,h4];simp [List.countP_cons,hr]
    · simp only [decide_eq_false (show ¬ j<zq fixed from hj),cond_false];have e:fixed.take j.toNat=fixed:=List.take_of_length_le J;have q1:=h.us;simp only [] at q1;rw [e] at q1 h4;exact Tot.some ⟨q1,h4⟩
  rintro ⟨c0,used⟩ ⟨hu,hc0⟩
  simp only [] at hu hc0 ⊢;have hcl:zhD n fixed<=fixed.length:=List.countP_le_length;have hk0:zh4 mt0=0:=by
    unfold zh4;rw [List.countP_eq_zero];intro x hx;obtain ⟨i,hi,rfl⟩:=List.getElem_of_mem hx;have:=hv0 (i:Int) ⟨by omega,by omega⟩;unfold mb at this;simp [List.getD,hi] at this;simp [this]
  refine Tot.bind (Q:=λt:Int×List Bool×List Int=>ztZ n g used t.2.2/\Most (ztY n g used) (λx=>(fixed.length:Int)<=x/\x<n) (pr t.2.2)/\t.1=(zhD n fixed:Int)+zh4 t.2.2) (Tot.iter (zCO n g used fixed.length (zhD n fixed)) _ (λs=>n-s.2.1.toNat) ?_ (by first | (simp only [big]; omega) | omega) ?_) ?_
  · have hpr:pr mt0=[]:=List.eq_nil_of_length_eq_zero (by rw [zhK,hk0]);refine ⟨by simp only [zo]; omega,by simp only [zo]; omega,⟨hl0,λb hb=>by rw [hv0 b hb]; omega,λb hb q=>by rw [hv0 b hb] at q; omega,λb b' hb hb' q=>by rw [hv0 b hb] at q; omega⟩,⟨by simp only []; rw [hpr]; exact ⟨by simp,by simp,by simp⟩,by simp only []; rw [hpr]; simp,λl' _ h2=>?_⟩,by simp only []; rw [hk0,hc0]; simp,by simp only [zo]; rw [hk0]; omega⟩
    match l' with
    | []=>simp
    | q::_=>
      have:=h2 q List.mem_cons_self;simp only [zo] at this;omega
  · rintro ⟨c,i,X,mt⟩ h
    have h1:=h.lo;have h2:=h.hi;have h3:=h.ok;have h4:=h.c;have h5:=h.small;have h6:=h.most;simp only [] at h1 h2 h3 h4 h5 h6;by_cases hi:i<n
    · have hiR:InR n i:=⟨by omega,hi⟩;have hw2:w64 (i+1)=i+1:=zk J J;have hw3:w64 (c+1)=c+1:=zk J J;have hsr:∀ b,sb (List.replicate n Oc) b=Oc:=λb=>by
        unfold sb;simp only [List.getD,List.getElem?_replicate];split<;>rfl
      have hin:zpa n g i used (List.replicate n Oc) mt:=⟨hu.l,by simp,h3.lm,h3.rng,h3.edge,λb b' hb hb' _ _=>h3.inj b b' hb hb',λb hb _ e=>by
        have:=h6.a (mb mt b,b) (ziH.2 ⟨by rw [h3.lm]; exact hb,by simp only []; omega,rfl⟩);simp only [] at this;omega⟩
      have hcf:zje (List.replicate n Oc)<big:=by
        have:zje (List.replicate n Oc)<=(List.replicate n Oc).length:=List.countP_le_length;simp only [List.length_replicate] at this;simp only [big];omega
      simp only [decide_eq_true hi,cond_true,hw2,hw3];refine Tot.bind (zvG hfol hlt hn big i used _ mt hiR hin hcf) ?_
      rintro o ⟨ho,_⟩
      obtain ⟨k1,k2,k3⟩:=zvH hu.l hiR h1 h3 h6 ho;cases ht:o.1 with
      | true=>
        rw [ht] at k3;simp only [if_true] at k3;simp only [cond_true];exact Tot.some ⟨⟨by simp only []; omega,by simp only []; omega,k1,k2,by simp only []; omega,by simp only []; omega⟩,by simp only []; omega⟩
      | false=>
        rw [ht] at k3;simp only [Bool.false_eq_true,if_false] at k3;simp only [cond_false];exact Tot.some ⟨⟨by simp only []; omega,by simp only []; omega,k1,k2,by simp only []; omega,by simp only []; omega⟩,by simp only []; omega⟩
    · simp only [decide_eq_false hi,cond_false];have:i=n:=J
      subst this;exact Tot.some ⟨h3,h6,h4⟩
  · rintro t ⟨q1,q2,q3⟩
    exact Tot.some ⟨used,t.2.2,hu,q1,q2,q3⟩
def Edg (n:Nat) (g:Int->Int->Bool) (x y:Int):Prop:=InR n x/\InR n y/\g x y=Od
def pf (n:Nat) (F:List Int):List (Int×Int):=((List.range F.length).filter λi=>decide (F.getD i 0<(n:Int))).map λ(i:Nat)=>((i:Int),F.getD i 0)
structure zfZ (n:Nat) (g:Int->Int->Bool) (F:List Int):Prop where
 len:F.length<=n
 rng:∀ x∈F,0<=x/\x<=n
 edge:∀ i:Nat,i<F.length->F.getD i 0<n->g i (F.getD i 0)=Od
 inj:∀ i j:Nat,i<F.length->j<F.length->F.getD i 0<n->F.getD i 0=F.getD j 0->i=j
theorem zof {n:Nat} {F:List Int} {q:Int×Int}:q∈pf n F↔∃ i:Nat,i<F.length/\F.getD i 0<n/\q=((i:Int),F.getD i 0):=by
 unfold pf;simp only [List.mem_map,List.mem_filter,List.mem_range,decide_eq_true_eq];constructor
 . rintro ⟨i,⟨h1,h2⟩,rfl⟩; exact ⟨i,h1,h2,rfl⟩
 . rintro ⟨i,h1,h2,rfl⟩; exact ⟨i,⟨h1,h2⟩,rfl⟩
theorem zog {A:Type} (p:A->Bool) (d:A) (l:List A):((List.range l.length).filter λi=>p (l.getD i d)).length=l.countP p:=by
 have h:l=(List.range l.length).map (λb=>l.getD b d):=by
  apply List.ext_getElem?;intro i;by_cases hi:i<l.length
  . simp [hi,List.getD]
  . simp [hi,List.getElem?_eq_none (by omega:l.length<=i)]
 conv=>rhs; rw [h]
 rw [List.countP_map,List.countP_eq_length_filter];rfl
theorem zwu (n:Nat) (F:List Int):(pf n F).length=zhD n F:=by
 unfold pf zhD;rw [List.length_map];exact zog (λx=>decide (x<(n:Int))) 0 F
section
variable {n:Nat} {g:Int->Int->Bool} {F:List Int}
theorem zfZ.isM (h:zfZ n g F):IsM (Edg n g) (pf n F):=by
 have hl:=h.len;have hn:((List.range F.length).filter λi=>decide (F.getD i 0<(n:Int))).Nodup:=List.nodup_range.filter _;have hb:∀ i∈(List.range F.length).filter (λi=>decide (F.getD i 0<(n:Int))),i<F.length/\F.getD i 0<n:=λi hi=>by
  have:=List.mem_filter.1 hi;exact ⟨List.mem_range.1 this.1,by simpa using this.2⟩
 refine ⟨λq hq=>?_, ?_, ?_⟩
 . obtain ⟨i,h1,h2,rfl⟩:=zof.1 hq;have:=h.rng _ (zgo (d:=(0:Int)) h1);exact ⟨⟨by simp only []; omega,by simp only []; omega⟩,⟨this.1,h2⟩,h.edge i h1 h2⟩
 . unfold pf;rw [List.map_map];refine zbb hn λx _ y _ e=>?_;have:((x:Nat):Int)=(y:Nat):=e;omega
 . unfold pf;rw [List.map_map];exact zbb hn λx hx y hy e=>h.inj x y (hb x hx).1 (hb y hy).1 (hb x hx).2 e
structure Val (n:Nat) (g:Int->Int->Bool) (F:List Int) (used:List Bool) (mt:List Int):Prop where
 us:Usd n F used
 ok:ztZ n g used mt
 most:Most (ztY n g used) (λx=>(F.length:Int)<=x/\x<n) (pr mt)
theorem ztB {used:List Bool} {mt:List Int} (h:zfZ n g F) (v:Val n g F used mt):IsM (Edg n g) (pf n F++pr mt):=by
 have hm:=v.ok.isM;refine h.isM.append ⟨λq hq=>⟨(hm.e q hq).1,(hm.e q hq).2.1,(hm.e q hq).2.2.1⟩,hm.f,hm.s⟩ (λp hp q hq e=>?_) (λp hp q hq e=>?_)
 . obtain ⟨i,h1,_,rfl⟩:=zof.1 hp;have:=v.most.a q hq;simp only [] at e;omega
 . obtain ⟨i,h1,h2,rfl⟩:=zof.1 hp;have hq':=hm.e q hq;have:q.2∈F:=by rw [← e]; exact zgo h1
   have:=(v.us.u q.2 hq'.2.1).2 this;rw [hq'.2.2.2] at this;cases this
theorem zwv {used:List Bool} {mt:List Int} (h:zfZ n g F) (v:Val n g F used mt) {l:List (Int×Int)} (hl:Most (Edg n g) (λx=>0<=x/\x<n) l):zhD n F+zh4 mt<=l.length:=by
 have:=hl.most _ (ztB h v) λq hq=>((ztB h v).e q hq).1;rw [List.length_append,zwu,zhK] at this;exact this
theorem zfZ.push {b:Int} (h:zfZ n g F) (hl:F.length<n) (hb:0<=b/\b<=n) (hg:b<n->g F.length b=Od/\b∉F):zfZ n g (F++[b]):=by
 have hlen:(F++[b]).length=F.length+1:=by simp
 have h0:∀ i:Nat,i<F.length->(F++[b]).getD i 0=F.getD i 0:=λi hi=>by simp only [List.getD_eq_getElem?_getD,List.getElem?_append_left hi]
 have h1:(F++[b]).getD F.length 0=b:=by simp [List.getD]
 refine ⟨by omega,λx hx=>?_,λi hi q=>?_,λi j hi hj q e=>?_⟩
 . rcases List.mem_append.1 hx with hx | hx
   . exact h.rng x hx
   . rw [List.mem_singleton.1 hx]; exact hb
 . rw [hlen] at hi;by_cases h2:i<F.length
   . rw [h0 i h2] at q ⊢; exact h.edge i h2 q
   . have:i=F.length:=J
     subst this;rw [h1] at q ⊢;exact (hg q).1
 . rw [hlen] at hi hj;by_cases h2:i<F.length
   . by_cases h3:j<F.length
     . rw [h0 i h2] at q e; rw [h0 j h3] at e; exact h.inj i j h2 h3 q e
     . have:j=F.length:=J
       subst this;rw [h0 i h2] at q e; rw [h1] at e;exact ((hg (e▸q)).2 (e▸zgo h2)).elim
   . have:i=F.length:=J
     subst this;by_cases h3:j<F.length
     . rw [h1] at q e; rw [h0 j h3] at e;exact ((hg q).2 (e▸zgo h3)).elim
     . omega
end
open Classical in
theorem ztC {E:Int->Int->Prop} {l:List (Int×Int)} (h:IsM E l) (k:Int):l.length<=(l.filter (λq=>q.1 !=k)).length+(if ∃ b,(k,b)∈l then 1 else 0):=by
 obtain ⟨he,hf,_⟩:=h;clear he;induction l with
 | nil=>simp
 | cons q l ih=>
  rw [List.map_cons,List.nodup_cons] at hf;have ih:=ih hf.2 (by rename_i h3; rw [List.map_cons,List.nodup_cons] at h3; exact h3.2);by_cases hq:q.1=k
  . have e2:(q.1 !=k)=Oc:=by simpa using hq
    have hno:¬ ∃ b,(k,b)∈l:=λ⟨b,hb⟩=>hf.1 (by rw [hq]; exact List.mem_map.2 ⟨_,hb,rfl⟩);rw [if_neg hno] at ih;rw [if_pos ⟨q.2,by rw [← hq]; exact List.mem_cons_self⟩];simp only [List.filter_cons,e2,Bool.false_eq_true,if_false,List.length_cons];omega
  . have e2:(q.1 !=k)=Od:=by simpa using hq
    simp only [List.filter_cons,e2,if_true,List.length_cons];by_cases hx:∃ b,(k,b)∈l
    . obtain ⟨b,hb⟩:=hx;rw [if_pos ⟨b,hb⟩] at ih;rw [if_pos ⟨b,List.mem_cons_of_mem _ hb⟩];omega
    . rw [if_neg hx] at ih;omega
section
variable {n:Nat} {g:Int->Int->Bool} {F:List Int}
open Classical in
theorem zqj {used used':List Bool} {mt mt':List Int} {c:Int} (v:Val n g F used mt) (v':Val n g (F++[c]) used' mt') (hl:F.length<n) (hc:∀ q∈pr mt,q.2=c->q.1=F.length):zh4 mt<=zh4 mt'+(if ∃ b,((F.length:Int),b)∈pr mt then 1 else 0):=by
 have hm:=v.ok.isM;have h1:=ztC hm (F.length:Int);have hf:=hm.filter (λq=>q.1 !=(F.length:Int));have h2:=v'.most.most ((pr mt).filter (λq=>q.1 !=(F.length:Int))) ⟨λq hq=>?_,hf.f,hf.s⟩ (λq hq=>?_)
 . rw [zhK] at h1 h2;omega
 . have hq1:=List.mem_filter.1 hq;have he:=hm.e q hq1.1;refine ⟨he.1,he.2.1,he.2.2.1, ?_⟩;cases hu:sb used' q.2 with
   | false=>rfl
   | true=>
    have:=(v'.us.u q.2 he.2.1).1 hu;rcases List.mem_append.1 this with h3 | h3
    . have:=(v.us.u q.2 he.2.1).2 h3;rw [he.2.2.2] at this;cases this
    . have:=hc q hq1.1 (List.mem_singleton.1 h3);have h4:=hq1.2;rw [this] at h4;simp at h4
 . have hq1:=List.mem_filter.1 hq;have h3:=v.most.a q hq1.1;have h4:q.1≠(F.length:Int):=by simpa using hq1.2
   rw [List.length_append,List.length_singleton];omega
theorem zvI {used used':List Bool} {mt mt':List Int} {b:Int} (v:Val n g F used mt) (v':Val n g (F++[b]) used' mt') (hl:F.length<n) (hb:((F.length:Int),b)∈pr mt):zhD n F+zh4 mt<=zhD n (F++[b])+zh4 mt':=by
 have hm:=v.ok.isM;have h1:=zqj v v' hl (λq hq e=>by
  have:=zgO hm.s hq hb e;rw [this])
 rw [if_pos ⟨b,hb⟩] at h1;have hbn:=(hm.e _ hb).2.1;unfold InR at hbn;simp only [] at hbn;unfold zhD;rw [List.countP_append];simp only [List.countP_cons,List.countP_nil,decide_eq_true hbn.2,if_true];omega
theorem zvJ {used used':List Bool} {mt mt':List Int} (v:Val n g F used mt) (v':Val n g (F++[(n:Int)]) used' mt') (hl:F.length<n) (hb:¬ ∃ b,((F.length:Int),b)∈pr mt):zhD n F+zh4 mt<=zhD n (F++[(n:Int)])+zh4 mt':=by
 have hm:=v.ok.isM;have h1:=zqj v v' hl (λq hq e=>by
  have:=(hm.e q hq).2.1;unfold InR at this;omega)
 rw [if_neg hb] at h1;unfold zhD;rw [List.countP_append];omega
end
end Go.Ai.Sx
namespace Go.Ai.Sx
section
variable {n:Nat} {g:Int->Int->Bool}
def Best (n:Nat) (g:Int->Int->Bool) (M:Nat) (F:List Int):Prop:=zfZ n g F/\∃ used mt,Val n g F used mt/\zhD n F+zh4 mt=M
structure zy1 (n:Nat) (g:Int->Int->Bool) (M:Nat) (F:List Int) (s:List Int×Int):Prop where
 f:s.1=F
 lo:(F.length:Int)+1<=s.2
 hi:s.2<=n
 no:∀ b,(F.length:Int)<b->b<s.2->g F.length b=Od->b∉F->∀ used mt,Val n g (F++[b]) used mt->zhD n (F++[b])+zh4 mt≠M
theorem zoh {w:zae} (hw:w.1.length=n) (hfol:∀ a b,InR n a->InR n b->zG w a b=Ob (g a b)) (hlt:∀ a b,g a b=Od->a<b) (hn:n<200) :
    ∃ F l,zbi w=Ob F/\F.length=n/\zfZ n g F/\Most (Edg n g) (λx=>0<=x/\x<n) l/\zhD n F=l.length:=by
  have hl:zq w.1=n:=by rw [zo,hw]
  have hme:=λ(F:List Int) (h:zfZ n g F)=>zq9 hw hfol hlt (show n<1000 by omega) h.rng h.len;have h0:zfZ n g []:=⟨by simp,by simp,by simp,by simp⟩;obtain ⟨u0,m0,q1,q2,q3,q4⟩:=hme [] h0;have hmost:Most (Edg n g) (λx=>0<=x/\x<n) (pr m0):=by
    have hu:∀ b,InR n b->sb u0 b=Oc:=λb hb=>by
      cases h:sb u0 b with
      | false=>rfl
      | true=>have:=(q1.u b hb).1 h; cases this
    refine ⟨⟨λq hq=>⟨(q3.m.e q hq).1,(q3.m.e q hq).2.1,(q3.m.e q hq).2.2.1⟩,q3.m.f,q3.m.s⟩,λq hq=>by have:=q3.a q hq; simpa using this,λl' h1 h2=>q3.most l' ⟨λq hq=>⟨(h1.e q hq).1,(h1.e q hq).2.1,(h1.e q hq).2.2,hu _ (h1.e q hq).2.1⟩,h1.f,h1.s⟩ (λq hq=>by have:=h2 q hq; simpa using this)⟩
  suffices hs:Tot (λF=>F.length=n/\zfZ n g F/\zhD n F=(pr m0).length) (zbi w) by
    obtain ⟨F,h1,h2,h3,h4⟩:=hs;exact ⟨F,pr m0,h1,h2,h3,hmost,h4⟩
  obtain ⟨M,hM⟩:∃ M,(pr m0).length=M:=⟨_,rfl⟩;have hq4:zaY w []=Ob (M:Int):=by
    rw [q4,← hM,zhK]; simp [zhD]
  unfold zbi;simp only [hq4,Zs,hl,hM];refine Tot.bind (Q:=λF:List Int=>F.length=n/\Best n g M F) (Tot.iter (λs:List Int×Int=>s.1.length=s.2/\Best n g M s.1) _ (λs=>n-s.1.length) ?_ (by first | (simp only [big]; omega) | omega) ?_) ?_
  · exact ⟨rfl,h0,u0,m0,⟨q1,q2,q3⟩,by rw [← hM,zhK]; simp [zhD]⟩
  · rintro ⟨F,i⟩ ⟨h1,h2,used,mt,h3,h4⟩
    simp only [] at h1 h2 h3 h4;subst h1;have hF:=h2.len;by_cases hi:(F.length:Int)<n
    · have hw2:w64 ((F.length:Int)+1)=F.length+1:=zk J J;simp only [decide_eq_true hi,cond_true,hw2];refine Tot.bind (Q:=λt:(List Int×Int×Bool×Bool×zae×Int×List Int×List Int×Int×Int×Bool)⊕List Int=>match t with
        | .inl v=>v.1.length=F.length+1/\Best n g M v.1
        | .inr F'=>F'=F/\zy1 n g M F (F,n)) (Tot.iter (zy1 n g M F) _ (λs=>n-s.2.toNat) ?_ (by first | (simp only [big]; omega) | omega) ?_) ?_
      · exact ⟨rfl,Int.le_refl _,by simp only []; omega,λb q1 q2=>by simp only [] at q2; omega⟩
      · rintro ⟨F',b⟩ h
        have e:=h.f;have lo:=h.lo;have hib:=h.hi;simp only [] at e lo hib;subst e;by_cases hb:b<n
        · have hbR:InR n b:=⟨by omega,hb⟩;have hw3:w64 (b+1)=b+1:=zk J J;have skip:(g F'.length b=Od->b∉F'->∀ used mt,Val n g (F'++[b]) used mt->zhD n (F'++[b])+zh4 mt≠M)->zy1 n g M F' (F',b+1):=λhx=>⟨rfl,by simp only []; omega,by simp only []; omega,λb' p1 p2 p3 p4=>by
            simp only [] at p2;by_cases e:b'=b
            · subst e; exact hx p3 p4
            · exact h.no b' p1 (by simp only []; omega) p3 p4⟩
          have sk:zy1 n g M F' (F',b+1)->zxQ (zy1 n g M F') (λt:(List Int×Int×Bool×Bool×zae×Int×List Int×List Int×Int×Int×Bool)⊕List Int=>match t with
        | .inl v=>v.1.length=F'.length+1/\Best n g M v.1
        | .inr F''=>F''=F'/\zy1 n g M F' (F',n)) (λs=>n-s.2.toNat) (F',b) (.inl (F',b+1)):=λhx=>⟨hx,by simp only []; omega⟩
          simp only [decide_eq_true hb,cond_true,hw3,hfol _ b ⟨by omega,hi⟩ hbR,Zs];cases hg:g F'.length b with
          | false=>exact Tot.some (sk (skip λq=>by rw [hg] at q; cases q))
          | true=>
            simp only [cond_true,zo9 (show F'.length<1000 by omega),Zs];cases hh:zty F' b with
            | true=>
              refine Tot.some (sk (skip λ_ q=>absurd ?_ q));unfold zty at hh;obtain ⟨x,hx,e⟩:=List.any_eq_true.1 hh;rw [← (by simpa using e:x=b)]; exact hx
            | false=>
              have hnb:b∉F':=λhm=>by
                unfold zty at hh;rw [List.any_eq_false] at hh;exact hh b hm Ol
              have hap:zcY 8 F' [b]=Ob (F'++[b]):=zbf (by simp only [List.length_singleton]; omega);have hcl:zcY 8 ([]:List Int) F'=Ob F':=zbf (by simp only [List.length_nil]; omega);have hpb:=h2.push (b:=b) J ⟨by omega,by omega⟩ (λ_=>⟨hg,hnb⟩);obtain ⟨u1,m1,r1,r2,r3,r4⟩:=hme _ hpb;simp only [Bool.not_false,cond_true,zck,hcl,hap,Zs,r4];by_cases hv:zhD n (F'++[b])+zh4 m1=M
              · have ev:(((zhD n (F'++[b]):Int)+(zh4 m1:Int))==(M:Int))=Od:=by rw [beq_iff_eq]; omega
                simp only [ev,cond_true];exact Tot.some (show _/\_ from ⟨by simp,hpb,u1,m1,⟨r1,r2,r3⟩,hv⟩)
              · have ev:(((zhD n (F'++[b]):Int)+(zh4 m1:Int))==(M:Int))=Oc:=by rw [beq_eq_false_iff_ne]; omega
                simp only [ev,cond_false];refine Tot.some (sk (skip λ_ _ u2 m2 v2=>?_));have e1:=v2.most.most _ ⟨λq hq=>?_,r3.m.f,r3.m.s⟩ r3.a
                · have e2:=r3.most _ ⟨λq hq=>?_,v2.most.m.f,v2.most.m.s⟩ v2.most.a
                  · rw [zhK,zhK] at e1 e2;omega
                  · have he:=v2.most.m.e q hq;refine ⟨he.1,he.2.1,he.2.2.1, ?_⟩;cases hu:sb u1 q.2 with
                    | false=>rfl
                    | true=>
                      have:=(v2.us.u q.2 he.2.1).2 ((r1.u q.2 he.2.1).1 hu);rw [he.2.2.2] at this; cases this
                · have he:=r3.m.e q hq;refine ⟨he.1,he.2.1,he.2.2.1, ?_⟩;cases hu:sb u2 q.2 with
                  | false=>rfl
                  | true=>
                    have:=(r1.u q.2 he.2.1).2 ((v2.us.u q.2 he.2.1).1 hu);rw [he.2.2.2] at this; cases this
        · simp only [decide_eq_false hb,cond_false];have:b=n:=J
          subst this;exact Tot.some (show _/\_ from ⟨rfl,h⟩)
      · intro t ht;cases t with
        | inl v=>
          obtain ⟨k1,k2⟩:=ht;exact Tot.some ⟨⟨by simp only []; omega,k2⟩,by simp only []; omega⟩
        | inr F'=>
          obtain ⟨rfl,k2⟩:=ht;have hap:zcY 8 F' [(n:Int)]=Ob (F'++[(n:Int)]):=zbf (by simp only [List.length_singleton]; omega);simp only [zhZ,hap,Zs];have hpb:=h2.push (b:=(n:Int)) J ⟨by omega,Int.le_refl _⟩ (λq=>by omega);obtain ⟨u1,m1,r1,r2,r3,r4⟩:=hme _ hpb;have hle:=zwv hpb ⟨r1,r2,r3⟩ hmost;have hge:zhD n F'+zh4 mt<=zhD n (F'++[(n:Int)])+zh4 m1:=by
            refine zvJ h3 ⟨r1,r2,r3⟩ J ?_
            rintro ⟨b,hb⟩
            have he:=h3.ok.isM.e _ hb;have hgb:=he.2.2.1;have hbR:=he.2.1;simp only [] at hgb hbR;have hnb:b∉F':=λhm=>by
              have:=(h3.us.u b hbR).2 hm;rw [he.2.2.2] at this; cases this
            have hbl:=hlt _ _ hgb;have hpr:=h2.push (b:=b) J ⟨hbR.1,by have:=hbR.2; omega⟩ (λ_=>⟨hgb,hnb⟩);obtain ⟨u2,m2,t1,t2,t3,t4⟩:=hme _ hpr;have g1:=zwv hpr ⟨t1,t2,t3⟩ hmost;have g2:=zvI h3 ⟨t1,t2,t3⟩ J hb;exact k2.no b hbl hbR.2 hgb hnb u2 m2 ⟨t1,t2,t3⟩ J
          refine Tot.some ⟨⟨by simp,hpb,u1,m1,⟨r1,r2,r3⟩,by simp only []; omega⟩,by simp only [List.length_append,List.length_singleton]; omega⟩
    · simp only [decide_eq_false hi,cond_false];exact Tot.some ⟨by omega,h2,used,mt,h3,h4⟩
  · rintro F ⟨h1,h2,used,mt,h3,h4⟩
    refine Tot.some ⟨h1,h2, ?_⟩;have:pr mt=[]:=by
      match hp:pr mt with
      | []=>rfl
      | q::_=>
        have:=h3.most.a q (by rw [hp]; exact List.mem_cons_self);omega
    have h5:=zhK mt;rw [this] at h5;simp at h5;omega
end
theorem zj0 {A B:Type} (f:A->B) (l:List A):l.length=(l.map f).length:=(List.length_map f).symm
def fx (F:List Int) (x:Int):Int:=F.getD x.toNat 0
structure Fol (n:Nat) (F:List Int):Prop where
 len:F.length=n
 rng:∀ x,InR n x->x<fx F x/\fx F x<=n
 inj:∀ x y,InR n x->InR n y->fx F x<n->fx F x=fx F y->x=y
section
variable {n:Nat} {F:List Int}
theorem zAu {g:Int->Int->Bool} (hl:F.length=n) (hp:zfZ n g F) (hlt:∀ a b,g a b=Od->a<b):Fol n F:=by
 have h0:∀ x,InR n x->(x.toNat:Int)=x/\x.toNat<F.length:=λx hx=>by unfold InR at hx; omega
 refine ⟨hl,λx hx=>?_,λx y hx hy h1 h2=>?_⟩
 . obtain ⟨e,hi⟩:=h0 x hx;have h3:=hp.rng _ (zgo (d:=(0:Int)) hi);unfold fx;refine ⟨?_,h3.2⟩;by_cases q:F.getD x.toNat 0<n
   . have:=hlt _ _ (hp.edge _ hi q);omega
   . unfold InR at hx; omega
 . obtain ⟨e,hi⟩:=h0 x hx;obtain ⟨e',hj⟩:=h0 y hy;have:=hp.inj _ _ hi hj h1 h2;omega
structure Prv (n:Nat) (F mt:List Int) (i:Int):Prop where
 len:mt.length=n
 yes:∀ b,InR n b->0<=mb mt b->InR n (mb mt b)/\mb mt b<i/\fx F (mb mt b)=b
 no:∀ b,InR n b->mb mt b<0->∀ z,InR n z->z<i->fx F z≠b
theorem ztD (h:Fol n F) (hn:n<1000) {mt0:List Int} (hl:mt0.length=n) (h0:∀ b,InR n b->mb mt0 b=-1):Tot (λt=>Prv n F t n) (iter (σ:=(Int×List Int)) (τ:=List Int) (λs49=>
cond (decide (s49.1<zq F)) (Zb (idx F s49.1) λx55=>
cond (decide (x55<(n:Int))) (Zb (idx s49.2 x55) λ_=>
Ob (.inl (w64 (s49.1+1),(s49.2).set (Int.toNat x55) s49.1))) (Ob (.inl (w64 (s49.1+1),s49.2)))) (Ob (.inr s49.2))) big (0,mt0)):=by
 have hlen:=h.len;have hlF:zq F=n:=by rw [zo,hlen]
 refine Tot.iter (λs:Int×List Int=>0<=s.1/\s.1<=n/\Prv n F s.2 s.1) _ (λs=>n-s.1.toNat) ?_ Of ?_
 . exact ⟨Int.le_refl _,by simp only []; omega,hl,λb hb q=>by simp only [] at q; rw [h0 b hb] at q; omega,λb _ _ z hz q=>by unfold InR at hz; simp only [] at q; omega⟩
 . rintro ⟨i,m⟩ ⟨h1,h2,h3⟩
   simp only [] at h1 h2 h3;simp only [hlF];by_cases hi:i<n
   . have hiR:InR n i:=⟨h1,hi⟩;have hw:w64 (i+1)=i+1:=zk J J;have hx:=zaV (l:=F) (d:=(0:Int)) h1 J;have hr:=h.rng i hiR;have hfx:F.getD i.toNat 0=fx F i:=rfl;rw [hfx] at hx;simp only [decide_eq_true hi,cond_true,hx,Zs,hw];have hml:=h3.len;by_cases hq:fx F i<n
     . have hfR:InR n (fx F i):=⟨by omega,hq⟩;simp only [decide_eq_true hq,cond_true,zaV (l:=m) (d:=(-1:Int)) hfR.1 J,Zs];refine Tot.some ⟨⟨by simp only []; omega,by simp only []; omega,by simp only [List.length_set]; exact hml,λb hb q=>?_,λb hb q z hz hzi e=>?_⟩,by simp only []; omega⟩
       . simp only [] at q ⊢;rw [zfg hml hfR hb] at q ⊢;by_cases e:fx F i=b
         . rw [if_pos e]; exact ⟨hiR,by omega,e⟩
         . rw [if_neg e] at q ⊢;obtain ⟨k1,k2,k3⟩:=h3.yes b hb q;exact ⟨k1,by omega,k3⟩
       . simp only [] at q hzi;rw [zfg hml hfR hb] at q;by_cases e2:fx F i=b
         . rw [if_pos e2] at q; omega
         . rw [if_neg e2] at q;by_cases e3:z=i
           . subst e3; exact e2 e
           . exact h3.no b hb q z hz J e
     . simp only [decide_eq_false hq,cond_false];refine Tot.some ⟨⟨by simp only []; omega,by simp only []; omega,hml,λb hb q=>?_,λb hb q z hz hzi e=>?_⟩,by simp only []; omega⟩
       . obtain ⟨k1,k2,k3⟩:=h3.yes b hb q;exact ⟨k1,by simp only []; omega,k3⟩
       . simp only [] at hzi;by_cases e3:z=i
         . subst e3;unfold InR at hb;omega
         . exact h3.no b hb q z hz J e
   . simp only [decide_eq_false hi,cond_false];have:i=n:=J
     subst this;exact Tot.some h3
theorem zyH {l:List Int} (hnd:l.Nodup) (h:∀ x∈l,InR n x):l.length<=n:=by
 have:=zdK (zbb (f:=λx:Int=>x.toNat) hnd λx hx y hy e=>by
  have h1:=h x hx;have h2:=h y hy;unfold InR at h1 h2;have e':x.toNat=y.toNat:=e;omega) (m:=List.range n) λx hx=>by
   obtain ⟨y,hy,rfl⟩:=List.mem_map.1 hx;have:=h y hy;unfold InR at this;exact List.mem_range.2 J
 simpa using this
theorem zvK (h:Fol n F) (hn:n<1000) {s:Int} (hs:InR n s):Tot (λacc=>acc.getD 0 0=s) (iter (σ:=(List Int×Int)) (τ:=List Int) (λs111=>
cond (decide (s111.2<(n:Int))) (Zb (zcY 8 s111.1 ([s111.2])) λx117=>
Zb (idx F s111.2) λx119=>
Ob (.inl (x117,x119))) (Ob (.inr s111.1))) big ([],s)):=by
 have hlen:=h.len;unfold InR at hs;refine Tot.iter (λq:List Int×Int=>(q.1.length:Int)+s<=q.2/\q.2<=n/\(0<q.1.length->q.1.getD 0 0=s)/\(q.1.length=0->q.2=s)) _ (λs=>n-s.2.toNat) ?_ Of ?_
 . exact ⟨by simp,by simp only []; omega,λq=>by simp at q,λ_=>rfl⟩
 . rintro ⟨acc,c⟩ ⟨h1,h2,h3,h4⟩
   simp only [] at h1 h2 h3 h4;by_cases hc:c<n
   . have hcR:InR n c:=⟨by omega,hc⟩;have hx:=zaV (l:=F) (d:=(0:Int)) hcR.1 J;have hr:=h.rng c hcR;have hfx:F.getD c.toNat 0=fx F c:=rfl;rw [hfx] at hx;have hap:zcY 8 acc [c]=Ob (acc++[c]):=zbf (by simp only [List.length_singleton]; omega);simp only [decide_eq_true hc,cond_true,hap,hx,Zs];refine Tot.some ⟨⟨by rw [List.length_append,List.length_singleton]; simp only []; omega,hr.2,λ_=>?_,λq=>by simp at q⟩,by simp only []; omega⟩;cases acc with
     | nil=>exact h4 rfl
     | cons x l=>exact h3 Ol
   . simp only [decide_eq_false hc,cond_false];refine Tot.some (h3 ?_);by_cases e:acc.length=0
     . have:=h4 e; omega
     . omega
structure zlk (n:Nat) (F:List Int) (p:List (List Int)) (a:Int):Prop where
 row:∀ k:Nat,k<p.length->InR n ((p.getD k []).getD 0 0)/\(p.getD k []).getD 0 0<a/\∀ z,InR n z->fx F z≠(p.getD k []).getD 0 0
 up:∀ k:Nat,k+1<p.length->(p.getD k []).getD 0 0<(p.getD (k+1) []).getD 0 0
 cnt:(p.length:Int)<=a
theorem zhy {A:Type} {l m:List A} {d:A} {i:Nat} (h:i<l.length):(l++m).getD i d=l.getD i d:=by
 simp only [List.getD_eq_getElem?_getD,List.getElem?_append_left h]
theorem zl6 {A:Type} {l:List A} {x d:A}:(l++[x]).getD l.length d=x:=by simp [List.getD]
theorem zlk.skip {p:List (List Int)} {a:Int} (h:zlk n F p a):zlk n F p (a+1):=
 ⟨λk hk=>by have:=h.row k hk; exact ⟨this.1,by omega,this.2.2⟩,h.up,by have:=h.cnt; omega⟩
theorem zlk.push {p:List (List Int)} {a:Int} {r:List Int} (h:zlk n F p a) (ha:InR n a) (hno:∀ z,InR n z->fx F z≠a) (hr:r.getD 0 0=a):zlk n F (p++[r]) (a+1):=by
 have hl:(p++[r]).length=p.length+1:=by simp
 refine ⟨λk hk=>?_,λk hk=>?_,by have:=h.cnt; omega⟩
 . by_cases q:k<p.length
   . have:=h.row k q;rw [zhy q];exact ⟨this.1,by omega,this.2.2⟩
   . have:k=p.length:=J
     subst this;rw [zl6,hr];exact ⟨ha,by omega,hno⟩
 . by_cases q:k+1<p.length
   . rw [zhy q,zhy J]; exact h.up k q
   . have:k+1=p.length:=J
     rw [this,zl6,zhy J,hr];exact (h.row k J).2.1
theorem ztE (h:Fol n F) (hn:n<1000) {mt:List Int} (hp:Prv n F mt n):Tot (λp=>zlk n F p n) (iter (σ:=(List (List Int)×Int)) (τ:=List (List Int)) (λs95=>
cond (decide (s95.2<(n:Int))) (Zb (idx mt s95.2) λx101=>
cond (decide (x101>=0)) (Ob (.inl (s95.1,w64 (s95.2+1)))) (Zb (iter (σ:=(List Int×Int)) (τ:=List Int) (λs111=>
cond (decide (s111.2<(n:Int))) (Zb (zcY 8 s111.1 ([s111.2])) λx117=>
Zb (idx F s111.2) λx119=>
Ob (.inl (x117,x119))) (Ob (.inr s111.1))) big ([],s95.2)) λt122=>
Zb (zcY 24 s95.1 ([t122])) λx126=>
Ob (.inl (x126,w64 (s95.2+1))))) (Ob (.inr s95.1))) big ([],0)):=by
 refine Tot.iter (λs:List (List Int)×Int=>0<=s.2/\s.2<=n/\zlk n F s.1 s.2) _ (λs=>n-s.2.toNat) ?_ Of ?_
 . exact ⟨Int.le_refl _,by simp only []; omega,λk hk=>by simp at hk,λk hk=>by simp at hk,by simp⟩
 . rintro ⟨p,a⟩ ⟨h1,h2,h3⟩
   simp only [] at h1 h2 h3;simp only [];by_cases ha:a<n
   . have haR:InR n a:=⟨h1,ha⟩;have hw:w64 (a+1)=a+1:=zk J J;have hml:=hp.len;have hx:idx mt a=Ob (mb mt a):=zaV (l:=mt) (d:=(-1:Int)) h1 J;simp only [decide_eq_true ha,cond_true,hx,Zs,hw];by_cases hq:mb mt a>=0
     . simp only [decide_eq_true hq,cond_true];exact Tot.some ⟨⟨by simp only []; omega,by simp only []; omega,h3.skip⟩,by simp only []; omega⟩
     . simp only [decide_eq_false hq,cond_false];refine (zvK h hn haR).bind λr hr=>?_;have hc:=h3.cnt;have hap:zcY 24 p [r]=Ob (p++[r]):=zbf (by simp only [List.length_singleton]; omega);simp only [hap,Zs];exact Tot.some ⟨⟨by simp only []; omega,by simp only []; omega,h3.push haR (λz hz=>hp.no a haR J z hz (by unfold InR at hz; omega)) hr⟩,by simp only []; omega⟩
   . simp only [decide_eq_false ha,cond_false];have:a=n:=J
     subst this;exact Tot.some h3
theorem zm0 {p:List (List Int)} (h:∀ k:Nat,k+1<p.length->(p.getD k []).getD 0 0<(p.getD (k+1) []).getD 0 0):∀ d i:Nat,i+d+1<p.length->(p.getD i []).getD 0 0<(p.getD (i+d+1) []).getD 0 0
 | 0,i,hi=>h i hi
 | d+1,i,hi=>Int.lt_trans (zm0 h d i J) (h (i+d+1) J)
theorem zlk.len {p:List (List Int)} {mt:List Int} (h:Fol n F) (hp:Prv n F mt n) (hc:zlk n F p n):p.length+(pr mt).length<=n:=by
 have h1:((List.range p.length).map λk=>(p.getD k []).getD 0 0).Nodup:=zbb List.nodup_range λi hi j hj e=>by
  have hi:=List.mem_range.1 hi;have hj:=List.mem_range.1 hj;rcases Nat.lt_trichotomy i j with q | q | q
  . have:=zm0 hc.up (j-i-1) i J;rw [show i+(j-i-1)+1=j by omega] at this;omega
  . exact q
  . have:=zm0 hc.up (i-j-1) j J;rw [show j+(i-j-1)+1=i by omega] at this;omega
 have h2:((pr mt).map (·.2)).Nodup:=by
  unfold pr;rw [List.map_map];exact zbb (List.nodup_range.filter _) λa _ b _ e=>by
   have e':(a:Int)=b:=e;omega
 have h3:(((List.range p.length).map λk=>(p.getD k []).getD 0 0)++(pr mt).map (·.2)).Nodup:=by
  refine List.nodup_append.2 ⟨h1,h2,λa ha b hb e=>?_⟩;subst e;obtain ⟨k,hk,rfl⟩:=List.mem_map.1 ha;obtain ⟨q,hq,e⟩:=List.mem_map.1 hb;have a3:=(hc.row k (List.mem_range.1 hk)).2.2;obtain ⟨b1,b2,b3⟩:=ziH.1 hq;rw [hp.len] at b1;obtain ⟨c1,_,c3⟩:=hp.yes q.2 b1 b2;exact a3 _ c1 (by rw [c3,e])
 have:=zyH (n:=n) h3 λx hx=>by
  rcases List.mem_append.1 hx with hx | hx
  . obtain ⟨k,hk,rfl⟩:=List.mem_map.1 hx;exact (hc.row k (List.mem_range.1 hk)).1
  . obtain ⟨q,hq,rfl⟩:=List.mem_map.1 hx;have:=(ziH.1 hq).1;rw [hp.len] at this;exact this
 simpa using this
theorem zvL {g:Int->Int->Bool} {mt:List Int} (h:Fol n F) (hp:zfZ n g F) (hv:Prv n F mt n):(pr mt).length=zhD n F:=by
 have hlen:=h.len;have hm:∀ q∈pr mt,InR n q.1/\InR n q.2/\fx F q.1=q.2:=λq hq=>by
  obtain ⟨b1,b2,b3⟩:=ziH.1 hq;rw [hv.len] at b1;obtain ⟨c1,_,c3⟩:=hv.yes q.2 b1 b2;rw [b3];exact ⟨c1,b1,c3⟩
 have hs:((pr mt).map (·.2)).Nodup:=by
  unfold pr;rw [List.map_map];exact zbb (List.nodup_range.filter _) λa _ b _ e=>by
   have e':(a:Int)=b:=e;omega
 have hM:IsM (Edg n g) (pr mt):=by
  refine ⟨λq hq=>?_, ?_,hs⟩
  . obtain ⟨c1,c2,c3⟩:=hm q hq;refine ⟨c1,c2, ?_⟩;unfold InR at c1 c2;unfold fx at c3;have:=hp.edge q.1.toNat J J;rw [c3,Int.toNat_of_nonneg c1.1] at this;exact this
  . have hnd:(pr mt).Nodup:=by
     unfold pr;exact zbb (List.nodup_range.filter _) λa _ b _ e=>by
      have e':=congrArg Prod.snd e;simp only [] at e';omega
    exact zbb hnd λq hq q' hq' e=>by
     have h1:=hm q hq;have h2:=hm q' hq';have:q.2=q'.2:=by rw [← h1.2.2,← h2.2.2,e]
     exact Prod.ext e this
 rw [← zwu];have hpf:=hp.isM;apply Nat.le_antisymm
 . rw [zj0 (·.1) (pr mt),zj0 (·.1) (pf n F)];refine zdK hM.f λx hx=>?_;obtain ⟨q,hq,rfl⟩:=List.mem_map.1 hx;obtain ⟨c1,c2,c3⟩:=hm q hq;unfold InR at c1 c2;unfold fx at c3;exact List.mem_map.2 ⟨((q.1.toNat:Nat),F.getD q.1.toNat 0),zof.2 ⟨q.1.toNat,by omega,by omega,rfl⟩,by simp only []; omega⟩
 . rw [zj0 (·.2) (pr mt),zj0 (·.2) (pf n F)];refine zdK hpf.s λx hx=>?_;obtain ⟨q,hq,rfl⟩:=List.mem_map.1 hx;obtain ⟨i,h1,h2,rfl⟩:=zof.1 hq;have hr:=h.rng (i:Int) ⟨by omega,by omega⟩;have he:fx F (i:Int)=F.getD i 0:=rfl;rw [he] at hr;have hbR:InR n (F.getD i 0):=⟨by omega,h2⟩;have:0<=mb mt (F.getD i 0):=by
    by_cases q:0<=mb mt (F.getD i 0)
    . exact q
    . exact (hv.no _ hbR J (i:Int) ⟨by omega,by omega⟩ J he).elim
   exact List.mem_map.2 ⟨(mb mt (F.getD i 0),F.getD i 0),ziH.2 ⟨by rw [hv.len]; exact hbR,this,rfl⟩,rfl⟩
theorem zyI {g:Int->Int->Bool} {mt:List Int} {w:zae} (hfol:∀ a b,InR n a->InR n b->zG w a b=Ob (g a b)) (hn:n<1000) (hlm:mt.length=n) (hrng:∀ b,InR n b->mb mt b<n) :
    ∀ k a sl sr,InR n a->sl.length=n->sr.length=n->zje sr<k->Tot (λo=>o.1.length=n/\o.2.length=n/\zje o.2<=zje sr) (zdG k a sl n w sr mt):=by
  intro k;induction k with
  | zero=>intro a sl sr _ _ _ hk; omega
  | succ k ih=>
    intro a sl sr ha hl1 hl2 hk;have ha':=ha;unfold InR at ha';show Tot _ (zcw (zdG k) a sl n w sr mt);unfold zcw;simp only [zaV (d:=Oc) (l:=sl) ha'.1 J,Zs];cases sl.getD a.toNat Oc with
    | true=>exact Tot.some ⟨hl1,hl2,Nat.le_refl _⟩
    | false=>
      simp only [cond_false];refine Tot.bind (Q:=λo:List Bool×List Bool=>o.1.length=n/\o.2.length=n/\zje o.2<=zje sr) (Tot.iter (λs:Int×List Bool×List Bool=>0<=s.1/\s.1<=n/\s.2.1.length=n/\s.2.2.length=n/\zje s.2.2<=zje sr) _ (λs=>n-s.1.toNat) ?_ (by first | (simp only [big]; omega) | omega) ?_) λt ht=>Tot.some ht
      · exact ⟨Int.le_refl _,by simp only []; omega,by simp only [List.length_set]; exact hl1,hl2,Nat.le_refl _⟩
      · rintro ⟨b,cl,cr⟩ ⟨i1,i2,i3,i4,i5⟩
        simp only [] at i1 i2 i3 i4 i5;by_cases hb:b<n
        · have hbR:InR n b:=⟨i1,hb⟩;have hw:w64 (b+1)=b+1:=zk J J;have skip:Tot (zxQ (λs:Int×List Bool×List Bool=>0<=s.1/\s.1<=n/\s.2.1.length=n/\s.2.2.length=n/\zje s.2.2<=zje sr) (λo:List Bool×List Bool=>o.1.length=n/\o.2.length=n/\zje o.2<=zje sr) (λs=>n-s.1.toNat) (b,cl,cr)) (Ob (.inl (b+1,cl,cr))):=Tot.some ⟨⟨by simp only []; omega,by simp only []; omega,i3,i4,i5⟩,by simp only []; omega⟩;simp only [decide_eq_true hb,cond_true,hfol a b ha hbR,Zs,hw];cases g a b with
          | false=>exact skip
          | true=>
            simp only [cond_true,zaV (d:=Oc) (l:=cr) i1 J,Zs];cases hs:cr.getD b.toNat Oc with
            | true=>exact skip
            | false=>
              have hcf:=zmZ (n:=n) i4 hbR hs;have hmb:mb mt b=mt.getD b.toNat (-1):=rfl;simp only [Bool.not_false,cond_true,zaV (d:=(-1:Int)) (l:=mt) i1 J,Zs,← hmb];by_cases hge:mb mt b>=0
              · simp only [decide_eq_true hge,cond_true];refine Tot.bind (ih (mb mt b) cl (cr.set b.toNat Od) ⟨hge,hrng b hbR⟩ i3 (by rw [List.length_set]; exact i4) J) ?_
                rintro o ⟨o1,o2,o3⟩
                exact Tot.some ⟨⟨by simp only []; omega,by simp only []; omega,o1,o2,by simp only []; omega⟩,by simp only []; omega⟩
              · simp only [decide_eq_false hge,cond_false];exact Tot.some ⟨⟨by simp only []; omega,by simp only []; omega,i3,by simp only [List.length_set]; exact i4,by simp only []; omega⟩,by simp only []; omega⟩
        · simp only [decide_eq_false hb,cond_false];exact Tot.some ⟨i3,i4,i5⟩
theorem ztF {g:Int->Int->Bool} {w:zae} {mt:List Int} (hfol:∀ a b,InR n a->InR n b->zG w a b=Ob (g a b)) (h:Fol n F) (hv:Prv n F mt n) (hn:n<1000) :
    Tot (λo:List Bool×List Bool=>o.1.length=n/\o.2.length=n) (iter (σ:=(Int×List Bool×List Bool)) (τ:=(List Bool×List Bool)) (λs162=>
cond (decide (s162.1<(n:Int))) (Zb (idx F s162.1) λx171=>
cond (x171==(n:Int)) (Zb (zdG big s162.1 s162.2.2 (n:Int) w s162.2.1 mt) λy173=>
Ob (.inl (w64 (s162.1+1),y173.2,y173.1))) (Ob (.inl (w64 (s162.1+1),s162.2.1,s162.2.2)))) (Ob (.inr (s162.2.1,s162.2.2)))) big (0,List.replicate n Oc,List.replicate n Oc)):=by
  have hml:=hv.len;have hlF:=h.len;refine Tot.iter (λs:Int×List Bool×List Bool=>0<=s.1/\s.1<=n/\s.2.1.length=n/\s.2.2.length=n) _ (λs=>n-s.1.toNat) ?_ Of ?_
  · exact ⟨Int.le_refl _,by simp only []; omega,by simp,by simp⟩
  · rintro ⟨i,R,L⟩ ⟨h1,h2,h3,h4⟩
    simp only [] at h1 h2 h3 h4;simp only [];by_cases hi:i<n
    · have hw:w64 (i+1)=i+1:=zk J J;simp only [decide_eq_true hi,cond_true,zaV (l:=F) (d:=(0:Int)) h1 J,Zs,hw];cases F.getD i.toNat 0==(n:Int) with
      | true=>
        refine (zyI hfol hn hml (λb hb=>?_) big i L R ⟨h1,hi⟩ h4 h3 (by have:zje R<=R.length:=List.countP_le_length; simp only [big]; omega)).bind λo ho=>?_
        · by_cases q:0<=mb mt b
          · exact (hv.yes b hb q).1.2
          · unfold InR at hb; omega
        exact Tot.some ⟨⟨by simp only []; omega,by simp only []; omega,ho.2.1,ho.1⟩,by simp only []; omega⟩
      | false=>exact Tot.some ⟨⟨by simp only []; omega,by simp only []; omega,h3,h4⟩,by simp only []; omega⟩
    · simp only [decide_eq_false hi,cond_false];exact Tot.some ⟨h3,h4⟩
theorem zpb {L R:List Bool} (hL:L.length=n) (hR:R.length=n) (hn:n<1000) :
 Tot (λ_=>True) (iter (σ:=(Int×List Int×List Int)) (τ:=(List Int×List Int)) (λs220=>
cond (decide (s220.1<(n:Int))) (Zb (idx L s220.1) λx229=>
cond (!x229) (Zb (zcY 8 s220.2.2 ([s220.1])) λx231=>
Zb (idx R s220.1) λx233=>
cond x233 (Zb (zcY 8 s220.2.1 ([s220.1])) λx235=>
Ob (.inl (w64 (s220.1+1),x235,x231))) (Ob (.inl (w64 (s220.1+1),s220.2.1,x231)))) (Zb (idx R s220.1) λx241=>
cond x241 (Zb (zcY 8 s220.2.1 ([s220.1])) λx243=>
Ob (.inl (w64 (s220.1+1),x243,s220.2.2))) (Ob (.inl (w64 (s220.1+1),s220.2.1,s220.2.2))))) (Ob (.inr (s220.2.2,s220.2.1)))) big (0,[],[])):=by
 refine Tot.iter (λs:Int×List Int×List Int=>0<=s.1/\s.1<=n/\(s.2.1.length:Int)<=s.1/\(s.2.2.length:Int)<=s.1) _ (λs=>n-s.1.toNat) ?_ Of ?_
 . exact ⟨Int.le_refl _,by simp only []; omega,by simp,by simp⟩
 . rintro ⟨i,S,G⟩ ⟨h1,h2,h3,h4⟩
   simp only [] at h1 h2 h3 h4;simp only [];by_cases hi:i<n
   . have hw:w64 (i+1)=i+1:=zk J J;have a1:zcY 8 S [i]=Ob (S++[i]):=zbf (by simp only [List.length_singleton]; omega);have a2:zcY 8 G [i]=Ob (G++[i]):=zbf (by simp only [List.length_singleton]; omega);simp only [decide_eq_true hi,cond_true,zaV (l:=L) (d:=Oc) h1 J,zaV (l:=R) (d:=Oc) h1 J,Zs,hw,a1,a2];cases L.getD i.toNat Oc<;>cases R.getD i.toNat Oc<;>exact Tot.some ⟨⟨by simp only []; omega,by simp only []; omega,by simp only [List.length_append,List.length_singleton]; omega,by simp only [List.length_append,List.length_singleton]; omega⟩,by simp only []; omega⟩
   . simp only [decide_eq_false hi,cond_false];exact Tot.some trivial
end
theorem ztG {n:Nat} (hn:n<1000):Tot (λl:List Int=>l.length=n/\∀ b,InR n b->mb l b=-1) (iter (σ:=(Int×List Int)) (τ:=List Int) (λs26=>
cond (decide (s26.1<zq (List.replicate n (0:Int)))) (Zb (idx s26.2 s26.1) λ_=>
Ob (.inl (w64 (s26.1+1),(s26.2).set (Int.toNat s26.1) (-1)))) (Ob (.inr s26.2))) big (0,List.replicate n (0:Int))):=by
 have hl:zq (List.replicate n (0:Int))=n:=by rw [zo,List.length_replicate]
 simp only [hl];refine Tot.iter (λs:Int×List Int=>0<=s.1/\s.1<=n/\s.2.length=n/\∀ b,InR n b->b<s.1->mb s.2 b=-1) _ (λs=>n-s.1.toNat) ?_ Of ?_
 . exact ⟨Int.le_refl _,by simp only []; omega,by simp,λb hb q=>by unfold InR at hb; simp only [] at q; omega⟩
 . rintro ⟨i,m⟩ ⟨h1,h2,h3,h4⟩
   simp only [] at h1 h2 h3 h4;simp only [];by_cases hi:i<n
   . have hw:w64 (i+1)=i+1:=zk J J;simp only [decide_eq_true hi,cond_true,zaV (l:=m) (d:=(0:Int)) h1 J,Zs,hw];refine Tot.some ⟨⟨by simp only []; omega,by simp only []; omega,by simp only [List.length_set]; exact h3,λb hb q=>?_⟩,by simp only []; omega⟩;simp only [] at q ⊢;rw [zfg h3 ⟨h1,hi⟩ hb];by_cases e:i=b
     . rw [if_pos e]
     . rw [if_neg e]; exact h4 b hb J
   . simp only [decide_eq_false hi,cond_false];have:i=n:=J
     subst this;exact Tot.some ⟨h3,λb hb=>h4 b hb hb.2⟩
theorem zvM {t:List Task} {y:Yard} (hF:Few t y) (hf:fine t y=Od):∃ p q,zdu t y=Ob (p,q,0)/\∃ l,Most (Edg t.length (zk6 t y)) (λx=>0<=x/\x<t.length) l/\l.length+p.length<=t.length:=by
 suffices hs:Tot (λr:List (List Int)×ziy×Int=>r.2.2=0/\∃ l,Most (Edg t.length (zk6 t y)) (λx=>0<=x/\x<t.length) l/\l.length+r.1.length<=t.length) (zdu t y) by
  obtain ⟨⟨p,q,e⟩,h1,h2,h3⟩:=hs;simp only [] at h2;subst h2;exact ⟨p,q,h1,h3⟩
 have ht:=hF.t;have hfol:∀ a b,InR t.length a->InR t.length b->zG (t,y,()) a b=Ob (zk6 t y a b):=λa b ha hb=>zjv hf ha hb;have hlt:∀ a b,zk6 t y a b=Od->a<b:=λa b h=>by
  unfold zk6 at h;simp only [Bool.and_eq_true,decide_eq_true_eq] at h;omega
 obtain ⟨F,l0,hF1,hF2,hF3,hF4,hF5⟩:=zoh (n:=t.length) (w:=(t,y,())) rfl hfol hlt ht;have hfl:=zAu hF2 hF3 hlt;unfold zdu;have hm0:mkO 8 (zq t) (0:Int)=Ob (List.replicate t.length 0):=by rw [zo,zgH J]; simp
 have hm1:mkO 1 (zq t) (Oc:Bool)=Ob (List.replicate t.length Oc):=by rw [zo,zgH J]; simp
 rw [zoc t y hF,hf,if_pos rfl,Zs];simp only [show ((0:Int)!=0)=Oc from rfl,cond_false,hF1,Zs,hm0,hm1];refine (ztG J).bind λmt0 hmt0=>?_;have hl:zq t=(t.length:Int):=rfl;simp only [hl];refine (ztD hfl J hmt0.1 hmt0.2).bind λmt hv=>?_;refine (ztE hfl J hv).bind λp hc=>?_;refine (ztF hfol hfl hv J).bind λo ho=>?_;refine (zpb ho.2 ho.1 J).bind λs _=>?_;have hpl:=zvL hfl hF3 hv;have hlen:=hc.len hfl hv;exact Tot.some ⟨rfl,l0,hF4,by simp only []; omega⟩
theorem zpc (n a b:Int):zaa n a b=Ob (inB n a b):=zhu n a b
theorem zAv {V:Type} {n:Nat} {B:Nat->Bool} {v:V} {F:Int->Option (Int⊕(Unit⊕V))} (h1:∀ i:Nat,i<n->F (i:Int)=Ob (if B i=Od then .inl ((i+1:Nat):Int) else .inr (.inr v))) (h2:F (n:Int)=Ob (.inr (.inl ()))):∀ k i:Nat,i+k=n->Lp F k (i:Int) (if (List.range' i k).all B=Od then .inl () else .inr v):=by
 intro k;induction k with
 | zero=>
  intro i h;have:i=n:=J
  subst this;exact Lp.done h2
 | succ k ih=>
  intro i h;have e:=h1 i J;rw [List.range'_succ,List.all_cons];cases hb:B i with
  | false=>rw [hb] at e; exact Lp.done e
  | true=>rw [hb] at e; rw [Bool.true_and]; exact Lp.step e (ih (i+1) J)
theorem zAw {V:Type} {n:Nat} {B:Nat->Bool} {v:V} {F:Int->Option (Int⊕(Unit⊕V))} (hn:n<=1000000) (h1:∀ i:Nat,i<n->F (i:Int)=Ob (if B i=Od then .inl ((i+1:Nat):Int) else .inr (.inr v))) (h2:F (n:Int)=Ob (.inr (.inl ()))):iter F big 0=Ob (if (List.range n).all B=Od then .inl () else .inr v):=by
 rw [List.range_eq_range'];exact (zAv h1 h2 n 0 J).big Of
theorem zAx {A V:Type} {n:Nat} {B:Nat->Bool} {f:Nat->A} {v:V} {F:List A×Int->Option ((List A×Int)⊕(List A⊕V))} (h1:∀ i:Nat,i<n->F (rlN i f,(i:Int))=Ob (if B i=Od then .inl (rlN (i+1) f,((i+1:Nat):Int)) else .inr (.inr v))) (h2:F (rlN n f,(n:Int))=Ob (.inr (.inl (rlN n f)))):∀ k i:Nat,i+k=n->Lp F k (rlN i f,(i:Int)) (if (List.range' i k).all B=Od then .inl (rlN n f) else .inr v):=by
 intro k;induction k with
 | zero=>
  intro i h;have:i=n:=J
  subst this;exact Lp.done h2
 | succ k ih=>
  intro i h;have e:=h1 i J;rw [List.range'_succ,List.all_cons];cases hb:B i with
  | false=>rw [hb] at e; exact Lp.done e
  | true=>rw [hb] at e; rw [Bool.true_and]; exact Lp.step e (ih (i+1) J)
theorem zAy {A V:Type} {n:Nat} {B:Nat->Bool} {f:Nat->A} {v:V} {F:List A×Int->Option ((List A×Int)⊕(List A⊕V))} (hn:n<=1000000) (h1:∀ i:Nat,i<n->F (rlN i f,(i:Int))=Ob (if B i=Od then .inl (rlN (i+1) f,((i+1:Nat):Int)) else .inr (.inr v))) (h2:F (rlN n f,(n:Int))=Ob (.inr (.inl (rlN n f)))):iter F big ([],0)=Ob (if (List.range n).all B=Od then .inl (rlN n f) else .inr v):=by
 rw [List.range_eq_range'];exact (zAx h1 h2 n 0 J).big Of
def T08:Trip:=(0,Oc,0,0,())
def tr8 (ts:List Trip) (i:Nat):Trip:=ts.getD i T08
def zra (s:Service) (ts:List Trip) (i:Nat):Bool:=inB (tr8 ts i).1 0 (zq s.1-1)&&(inB (tr8 ts i).2.2.2.1 0 200000&&(decide (i=0)||!decide ((tr8 ts i).2.2.2.1<(tr8 ts (i-1)).2.2.2.1)))
def zk7 (s:Service) (ts:List Trip):Bool:=(List.range ts.length).all (zra s ts)
def zrb (p:Plan) (s:Service) (t:Trip):Int:=t.2.2.2.1+zdj p (ln0 s t.1.toNat) (zh2 (ln0 s t.1.toNat) t.2.1)
def zh5 (p:Plan) (s:Service) (t:Trip):Task:=cond t.2.1 (2*t.1+1,2*t.1,t.2.2.2.1,zrb p s t,()) (2*t.1,2*t.1+1,t.2.2.2.1,zrb p s t,())
def inT (p:Plan) (s:Service) (ts:List Trip) (i:Nat):Bool:=!decide (zrb p s (tr8 ts i)>200000)
def zhL (p:Plan) (s:Service) (ts:List Trip):List Task:=rlN ts.length λi=>zh5 p s (tr8 ts i)
def inA (p:Plan) (s:Service) (ts:List Trip):Bool:=(List.range ts.length).all (inT p s ts)
theorem zBT {V:Type} {v:V} {s:Service} {ts:List Trip} (hs:s.1.length<=2) (hn:ts.length<=100) {i:Nat} (hi:i<ts.length) {w1 w2:Bool} (e1:w1=inB (tr8 ts i).1 0 (zq s.1-1)) (e2:w2=inB (tr8 ts i).2.2.2.1 0 200000):cond (!w1) (Ob (.inr (.inr v))) (cond (!w2) (Ob (.inr (.inr v))) (cond (decide ((i:Int)>0)) (Zb (idx ts (w64 ((i:Int)-1))) λx52=>cond (decide ((tr8 ts i).2.2.2.1<x52.2.2.2.1)) (Ob (.inr (.inr v))) (Ob (.inl (w64 ((i:Int)+1))))) (Ob (.inl (w64 ((i:Int)+1))))))=Ob (if zra s ts i=Od then Sum.inl ((i+1:Nat):Int) else .inr (.inr v:Unit⊕V)):=by
 subst e1 e2;unfold zra;cases inB (tr8 ts i).1 0 (zq s.1-1) with
 | false=>rfl
 | true=>
 cases inB (tr8 ts i).2.2.2.1 0 200000 with
 | false=>rfl
 | true=>
 simp only [Bool.not_true,cond_false,Bool.true_and];rw [z7 J];by_cases h0:i=0
 . subst h0; rfl
 . rw [decide_eq_true (show (i:Int)>0 by omega),cond_true,zk J J,show (i:Int)-1=((i-1:Nat):Int) by omega,zI T08 J,Zs,decide_eq_false h0,Bool.false_or];show cond (decide ((tr8 ts i).2.2.2.1<(tr8 ts (i-1)).2.2.2.1)) _ _=_;cases decide ((tr8 ts i).2.2.2.1<(tr8 ts (i-1)).2.2.2.1)<;>rfl
structure Sv8 (p:Plan) (s:Service) (ts:List Trip):Prop where
 I:zl3 p s
 O:zom p s
 n:s.1.length<=2
 t:ts.length<=100
theorem zpd {p:Plan} {s:Service} {ts:List Trip} (h:zk7 s ts=Od) {i:Nat} (hi:i<ts.length):(0<=(tr8 ts i).1/\(tr8 ts i).1<s.1.length)/\(0<=(tr8 ts i).2.2.2.1/\(tr8 ts i).2.2.2.1<=200000):=by
 have h1:=List.all_eq_true.1 h i (List.mem_range.2 hi);unfold zra at h1;simp only [Bool.and_eq_true] at h1;have a:=zas.1 h1.1;have b:=zas.1 h1.2.1;rw [zo] at a;exact ⟨⟨a.1,by omega⟩,b⟩
section
variable {p:Plan} {s:Service} {ts:List Trip} (H:Sv8 p s ts) (hT:zk7 s ts=Od)
include H hT
theorem zAz {i:Nat} (hi:i<ts.length):∃ K:ztX p (ln0 s (tr8 ts i).1.toNat) (zh2 (ln0 s (tr8 ts i).1.toNat) (tr8 ts i).2.1),ztW p (ln0 s (tr8 ts i).1.toNat)/\zhb p (ln0 s (tr8 ts i).1.toNat)=Od/\idx s.1 (tr8 ts i).1=Ob (ln0 s (tr8 ts i).1.toNat):=by
 obtain ⟨⟨a,b⟩,_⟩:=zpd (p:=p) hT hi;have hk:(tr8 ts i).1.toNat<s.1.length:=J
 have hl:=H.O.l _ hk;have hI:=H.I.l _ hk;have hO:=zyo hI H.O.v hl;refine ⟨?_,hI,hl, ?_⟩
 . cases (tr8 ts i).2.1
   . exact hO.o
   . exact hO.h
 . have:=zI L0 hk;rwa [Int.toNat_of_nonneg a] at this
theorem zyJ {i:Nat} (hi:i<ts.length):1<=zrb p s (tr8 ts i)/\zrb p s (tr8 ts i)<=250000:=by
 obtain ⟨K,_⟩:=zAz H hT hi;obtain ⟨_,h⟩:=zpd (p:=p) hT hi;have:=K.l1;have:=K.l2;unfold zrb;omega
theorem zCP {V:Type} {v:V} {i:Nat} (hi:i<ts.length) {x:Int} (hx:x=zdj p (ln0 s (tr8 ts i).1.toNat) (zh2 (ln0 s (tr8 ts i).1.toNat) (tr8 ts i).2.1)):cond (tr8 ts i).2.1 (cond (decide (w64 ((tr8 ts i).2.2.2.1+x)>200000)) (Ob (.inr (.inr v))) (Zb (zcY 32 (rlN i λi=>zh5 p s (tr8 ts i)) ([(w64 (w64 (2*(tr8 ts i).1)+1),w64 (2*(tr8 ts i).1),(tr8 ts i).2.2.2.1,w64 ((tr8 ts i).2.2.2.1+x),())])) λx95=>Ob (.inl (x95,w64 ((i:Int)+1))))) (cond (decide (w64 ((tr8 ts i).2.2.2.1+x)>200000)) (Ob (.inr (.inr v))) (Zb (zcY 32 (rlN i λi=>zh5 p s (tr8 ts i)) ([((w64 (2*(tr8 ts i).1),w64 (w64 (2*(tr8 ts i).1)+1),(tr8 ts i).2.2.2.1,w64 ((tr8 ts i).2.2.2.1+x),()):Task)])) λx98=>Ob (.inl (x98,w64 ((i:Int)+1)))))=Ob (if inT p s ts i=Od then Sum.inl (rlN (i+1) (λi=>zh5 p s (tr8 ts i)),((i+1:Nat):Int)) else .inr (.inr v:List Task⊕V)):=by
 subst hx;have hb:=zyJ H hT hi;obtain ⟨⟨a,b⟩,_⟩:=zpd (p:=p) hT hi;have hn:=H.n;have ht:=H.t;have hlen:(rlN i λi=>zh5 p s (tr8 ts i)).length=i:=zgL _ _;have e0:(tr8 ts i).2.2.2.1+zdj p (ln0 s (tr8 ts i).1.toNat) (zh2 (ln0 s (tr8 ts i).1.toNat) (tr8 ts i).2.1)=zrb p s (tr8 ts i):=rfl;rw [e0,zk (n:=zrb p s (tr8 ts i)) J J,zk (n:=2*(tr8 ts i).1) J J,zk (n:=2*(tr8 ts i).1+1) J J,z7 J];have hap:∀ y:Task,zcY 32 (rlN i λi=>zh5 p s (tr8 ts i)) [y]=Ob ((rlN i λi=>zh5 p s (tr8 ts i))++[y]):=λy=>zbf (by rw [hlen]; simp only [List.length_cons,List.length_nil]; omega);rw [hap,hap,zp2];unfold inT;have e1:zh5 p s (tr8 ts i)=cond (tr8 ts i).2.1 (2*(tr8 ts i).1+1,2*(tr8 ts i).1,(tr8 ts i).2.2.2.1,zrb p s (tr8 ts i),()) (2*(tr8 ts i).1,2*(tr8 ts i).1+1,(tr8 ts i).2.2.2.1,zrb p s (tr8 ts i),()):=rfl;rw [e1];cases (tr8 ts i).2.1<;>cases decide (zrb p s (tr8 ts i)>200000)<;>rfl
end
theorem zAA {p:Plan} {s:Service} {ts:List Trip} (I:zl3 p s) (hs:s.1.length<=2) (hn:ts.length<=100):ze4 p s ts=Ob (if (zq0 p s&&zk7 s ts)=Od then (if (inA p s ts&&decide (zq ts<=60))=Od then (zhL p s ts,0) else ([],3)) else ([],2)):=by
 unfold ze4;rw [zti I,Zs];cases hv:zq0 p s with
 | false=>rfl
 | true=>
 have O:=zyq hv;have H:Sv8 p s ts:=⟨I,O,hs,hn⟩;have hw:w64 (zq s.1-1)=zq s.1-1:=by rw [zo]; exact zk J J
 simp only [if_true,show ((0:Int)!=0)=Oc from rfl,cond_false,Bool.true_and];rw [zAw (n:=ts.length) (B:=zra s ts) (v:=(([],2):List Task×Int)) J (λi hi=>?_) (by simp only [zba,cond_false]),Zs];rotate_left
 . simp only [za5 hi,cond_true,hw];rw [zI T08 hi];simp only [Zs,zpc];exact zBT hs hn hi rfl rfl
 show alt _ _ (if zk7 s ts=Od then _ else _)=_;cases hT:zk7 s ts with
 | false=>rfl
 | true=>
 simp only [if_true,zdN];by_cases hl:zq ts<=60
 . rw [decide_eq_false (show ¬ zq ts>60 by omega),cond_false,decide_eq_true hl,Bool.and_true];rw [zAy (n:=ts.length) (B:=inT p s ts) (f:=λi=>zh5 p s (tr8 ts i)) (v:=(([],3):List Task×Int)) J (λi hi=>?_) (by simp only [zba,cond_false]),Zs]
   . show alt _ _ (if inA p s ts=Od then _ else _)=_;cases inA p s ts<;>rfl
   . obtain ⟨K,hI,hln,hx⟩:=zAz H hT hi;simp only [za5 hi,cond_true];rw [zI T08 hi,Zs];show Zb (idx s.1 (tr8 ts i).1) _=_;rw [hx,Zs];show Zb (zcd p (ln0 s (tr8 ts i).1.toNat) (tr8 ts i).2.1) _=_;rw [zvu hI,hln,O.v,Zs];simp only [Bool.and_self,if_true,show ((0:Int)!=0)=Oc from rfl,cond_false];rw [zkZ K,Zs];exact zCP H hT hi rfl
 . rw [decide_eq_true (show zq ts>60 by omega),cond_true,decide_eq_false hl,Bool.and_false];rfl
structure LnB (l:Line):Prop where
 w1:l.1.1.length<=9223372036854775807
 s1:l.1.2.1.length<=9223372036854775807
 w2:l.2.1.1.length<=9223372036854775807
 s2:l.2.1.2.1.length<=9223372036854775807
theorem zAB {p:Plan} {l:Line} (h:LnB l):ztW p l:=by
 have hb:∀ way:List zad,zbJ p=Od->zm3 p way=Od->wlS p way<=62000000000:=by
  intro way hv hw;have W:=zkS hw;have:=zBN (zfo hv) W;have:=W.n;omega
 exact ⟨h.w1,h.s1,h.w2,h.s2,hb _,hb _⟩
theorem zqk {A:Prop} [Decidable A] {x:Option Bool} {Q:Prop} (h:∃ b,x=Ob b/\(b=Od->Q)):∃ b,cond (decide A) x (Ob Oc)=Ob b/\(b=Od->A/\Q):=by
 by_cases hA:A
 . rw [decide_eq_true hA];obtain ⟨b,h1,h2⟩:=h;exact ⟨b,h1,λhb=>⟨hA,h2 hb⟩⟩
 . rw [decide_eq_false hA];exact ⟨Oc,rfl,λh=>by cases h⟩
theorem zrc (p:Plan) (s:Service):∃ b,zeu p s=Ob b/\(b=Od->s.1.length<=2/\s.2.1.length<=3):=by
 unfold zeu;obtain ⟨b,h1,h2⟩:=zqk (A:=zq p.2.1<=8) (zqk (A:=zq p.1<=10) (zqk (A:=zq s.1<=2) (zqk (A:=zq s.2.1<=3) (Q:=zq s.2.2.1<=3) ⟨_,rfl,λh=>of_decide_eq_true h⟩)));refine ⟨b,by rw [h1]; rfl,λhb=>?_⟩;obtain ⟨_,_,a,c,_⟩:=h2 hb;rw [zo] at a c;exact ⟨by omega,by omega⟩
section
variable {p:Plan} {s:Service} (V:zom p s) (H:zl3 p s) {from_ until_:Int} (hf:0<=from_/\from_<=until_) (hu:until_<=200000) {M:List Trip} (hM:M.length<=1000000) (hS:zfr zhC M) (hE:zdb zhC (zts p s [] from_ until_) M)
include V H hf hu hM hS hE
theorem zyK {i:Nat} (hi:i<s.1.length) {q:Nat} (hq:q<M.length) (hqi:(M.getD q E0).1=i) {r:Nat} (hr:zwt M i (M.getD q E0).2.2.1 q=Ob r):(M.getD q E0).2.1=!(M.getD r E0).2.1/\ztv p (ln0 s i) (M.getD r E0)+(ln0 s i).2.2.2.2.1<=(M.getD q E0).2.2.2.1:=by
 have K:=lnK V H hi;have hh:=V.hb i hi;have ho:=zvB V H hf hu hi;obtain ⟨c1,c2,c3,c4,c5⟩:=ziD K (h:=hd0 s i) J;obtain ⟨j,hj,hx,kx,hxe,hx1,hx2⟩:=zAR V H hf hu hM hS hE hq;have hij:j=i:=by rw [hxe] at hqi; simp only [] at hqi; omega
 subst hij;have hyl:=K.y;have hlx:=zjZ K hh hx;obtain ⟨r1,⟨r2,r3⟩,r4⟩:=zhf hr;have hrl:r<M.length:=J
 obtain ⟨j2,hj2,hy,ky,hye,hy1,hy2⟩:=zAR V H hf hu hM hS hE hrl;have hjj:j2=j:=by rw [hye] at r2; simp only [] at r2; omega
 subst hjj;have hly:=zjZ K hh hy;have hmod:ky%zfM p (ln0 s j2) (hd0 s j2)=kx%zfM p (ln0 s j2) (hd0 s j2):=by
  rw [hye,hxe] at r3;exact r3
 have hle:=zAq V H hf hu hM hS hE (show r<=q by omega) hq;have hle2:zgr p (ln0 s j2) hy (hd0 s j2) (of0 s j2) ky<=zgr p (ln0 s j2) hx (hd0 s j2) (of0 s j2) kx:=by
  rw [hye,hxe] at hle;exact hle
 have hne:¬ (hy=hx/\ky=kx):=by
  rintro ⟨e1,e2⟩
  subst e1; subst e2;exact zCL V H hf hu hM hS hE r1 hq (by rw [hye,hxe])
 have hnd:=zyF K hh (o:=of0 s j2) hy ky;have harr:ztv p (ln0 s j2) (M.getD r E0)=zgr p (ln0 s j2) hy (hd0 s j2) (of0 s j2) ky+zmY p (ln0 s j2) hy:=by unfold ztv; rw [hye]
 rcases zAp K hh hmod hle2 hne with ⟨e1,e2⟩ | hB
 . rw [harr,hxe,hye];simp only [];rw [← e1,← e2] at hnd;exact ⟨e1,by omega⟩
 . exfalso;have hln:=zjZ K hh (zws hy);have hz:=(zqh V H hf hu hj (zws hy) (zyE p (ln0 s j2) (hd0 s j2) hy ky)).2 ⟨by omega,by omega⟩;have hzM:=hE.mem.2 ((zqi V H hf hu).2 ⟨j2,hj,zws hy,hz⟩);obtain ⟨t,ht,hte⟩:=List.getElem_of_mem hzM;have hte:M.getD t E0=_:=(show M.getD t E0=M[t] by simp [List.getD,ht]).trans hte;have hkt:zhC (M.getD t E0)=zgr p (ln0 s j2) (zws hy) (hd0 s j2) (of0 s j2) (zyE p (ln0 s j2) (hd0 s j2) hy ky):=by rw [hte]; rfl
   have hkr:zhC (M.getD r E0)=zgr p (ln0 s j2) hy (hd0 s j2) (of0 s j2) ky:=by rw [hye]; rfl
   have hkq:zhC (M.getD q E0)=zgr p (ln0 s j2) hx (hd0 s j2) (of0 s j2) kx:=by rw [hxe]; rfl
   have hrt:r<t:=by
    by_cases g:r<t
    . exact g
    . have:=zAq V H hf hu hM hS hE (show t<=r by omega) hrl;omega
   have htq:t<q:=by
    by_cases g:t<q
    . exact g
    . have:=zAq V H hf hu hM hS hE (show q<=t by omega) ht;omega
   refine r4 t hrt htq ⟨by rw [hte], ?_⟩;rw [hte,hxe];simp only [];have hnk:zyE p (ln0 s j2) (hd0 s j2) hy ky%zfM p (ln0 s j2) (hd0 s j2)=ky%zfM p (ln0 s j2) (hd0 s j2):=by
    unfold zyE;cases hy
    . rfl
    . exact Int.add_emod_right ..
   omega
end
theorem ziI {M:List Trip} {i c:Int}:∀ {q:Nat},zwt M i c q=Oe->∀ t,t<q->¬ ((M.getD t E0).1=i/\(M.getD t E0).2.2.1=c)
 | 0,_,t,h=>by omega
 | q+1,h,t,ht=>by
  rw [zob] at h;split at h
  . cases h
  . rename_i hc;by_cases e:t=q
    . subst e; exact hc
    . exact ziI h t J
def pvT (M:List Trip) (q:Nat):Option Nat:=zwt M (M.getD q E0).1 (M.getD q E0).2.2.1 q
def edT (M:List Trip) (l:List Nat):List (Int×Int):=l.filterMap λq=>(pvT M q).map λr:Nat=>((r:Int),(q:Int))
def fsT (M:List Trip) (l:List Nat):List Nat:=l.filter λq=>(pvT M q).isNone
theorem zBU (M:List Trip) (l:List Nat):(edT M l).length+(fsT M l).length=l.length:=by
 induction l with
 | nil=>rfl
 | cons q l ih=>
  unfold edT fsT at ih ⊢;rw [List.filterMap_cons,List.filter_cons];cases pvT M q with
  | none=>simp only [Option.map_none,Option.isNone_none,if_true,List.length_cons]; omega
  | some r=>simp only [Option.map_some,Option.isNone_some,Bool.false_eq_true,if_false,List.length_cons]; omega
theorem ztH {M:List Trip} {l:List Nat} {x:Int×Int}:x∈edT M l↔∃ q r:Nat,q∈l/\pvT M q=Ob r/\x=((r:Int),(q:Int)):=by
 unfold edT;rw [List.mem_filterMap];constructor
 . rintro ⟨q,h1,h2⟩
   obtain ⟨r,h3,rfl⟩:=Option.map_eq_some_iff.1 h2;exact ⟨q,r,h1,h3,rfl⟩
 . rintro ⟨q,r,h1,h2,rfl⟩
   exact ⟨q,h1,by rw [h2]; rfl⟩
theorem zAC (M:List Trip) (l:List Nat):(edT M l).map (·.2)=(l.filter λq=>(pvT M q).isSome).map λq:Nat=>(q:Int):=by
 induction l with
 | nil=>rfl
 | cons q l ih=>
  unfold edT at ih ⊢;rw [List.filterMap_cons,List.filter_cons];cases pvT M q with
  | none=>simpa using ih
  | some r=>simpa using ih
theorem zCQ {M:List Trip} {n:Nat} {g:Int->Int->Bool} (hg:∀ q r:Nat,q<n->pvT M q=Ob r->g r q=Od):IsM (Edg n g) (edT M (List.range n)):=by
 have h2:((edT M (List.range n)).map (·.2)).Nodup:=by
  rw [zAC];exact zbb (List.nodup_range.sublist List.filter_sublist) (λx _ y _ e=>by omega)
 have h0:(edT M (List.range n)).Nodup:=List.Pairwise.of_map (·.2) (λa b h e=>h (by rw [e])) h2;refine ⟨λx hx=>?_, ?_,h2⟩
 . obtain ⟨q,r,h1,h3,rfl⟩:=ztH.1 hx;have h1:=List.mem_range.1 h1;have h4:=(zhf h3).1;exact ⟨⟨by simp only []; omega,by simp only []; omega⟩,⟨by simp only []; omega,by simp only []; omega⟩,hg q r h1 h3⟩
 . refine zbb h0 (λx hx y hy e=>?_);obtain ⟨q1,r1,a1,a2,rfl⟩:=ztH.1 hx;obtain ⟨q2,r2,b1,b2,rfl⟩:=ztH.1 hy;simp only [] at e;have e:r1=r2:=J
   subst e;obtain ⟨a3,⟨a4,a5⟩,a6⟩:=zhf a2;obtain ⟨b3,⟨b4,b5⟩,b6⟩:=zhf b2;have:q1=q2:=by
    by_cases h:q1<q2
    . exact (b6 q1 a3 h ⟨by rw [← a4,b4],by rw [← a5,b5]⟩).elim
    . by_cases h':q2<q1
      . exact (a6 q2 b3 h' ⟨by rw [← b4,a4],by rw [← b5,a5]⟩).elim
      . omega
   subst this;rfl
def zy2 (p:Plan) (s:Service):Nat->List (Int×Int)
 | 0=>[]
 | i+1=>zy2 p s i++(List.range (zfM p (ln0 s i) (hd0 s i)).toNat).map λc:Nat=>((i:Int),(c:Int))
def zpe (p:Plan) (s:Service):Nat->Int
 | 0=>0
 | i+1=>zpe p s i+zfM p (ln0 s i) (hd0 s i)
theorem zql {p:Plan} {s:Service} {i:Nat} {c:Int} (hc:0<=c/\c<zfM p (ln0 s i) (hd0 s i)):∀ {n:Nat},i<n->((i:Int),c)∈zy2 p s n
 | n+1,h=>by
  unfold zy2;by_cases e:i=n
  . subst e;exact List.mem_append_right _ (List.mem_map.2 ⟨c.toNat,List.mem_range.2 J,by rw [Int.toNat_of_nonneg hc.1]⟩)
  . exact List.mem_append_left _ (zql hc J)
theorem zqm {p:Plan} {s:Service}:∀ {n:Nat},(∀ i,i<n->0<=zfM p (ln0 s i) (hd0 s i))->((zy2 p s n).length:Int)=zpe p s n
 | 0,_=>rfl
 | n+1,h=>by
  unfold zy2 zpe;rw [List.length_append,List.length_map,List.length_range,Int.natCast_add,zqm (λi hi=>h i J)];have:=h n J;omega
section
variable {p:Plan} {s:Service} (V:zom p s) (H:zl3 p s) {from_ until_:Int} (hf:0<=from_/\from_<=until_) (hu:until_<=200000) {M:List Trip} (hM:M.length<=1000000) (hS:zfr zhC M) (hE:zdb zhC (zts p s [] from_ until_) M)
include V H hf hu hM hS hE
theorem zBV:((fsT M (List.range M.length)).length:Int)<=zpe p s s.1.length:=by
 have hc:∀ i,i<s.1.length->1<=zfM p (ln0 s i) (hd0 s i):=λi hi=>by
  have hh:=V.hb i hi;exact (ziD (lnK V H hi) (h:=hd0 s i) J).1
 rw [← zqm (λi hi=>by have:=hc i hi; omega)];have hlt:∀ q∈fsT M (List.range M.length),q<M.length/\pvT M q=Oe:=λq hq=>by
  unfold fsT at hq;obtain ⟨h1,h2⟩:=List.mem_filter.1 hq;exact ⟨List.mem_range.1 h1,Option.isNone_iff_eq_none.1 h2⟩
 have hnd:((fsT M (List.range M.length)).map λq=>((M.getD q E0).1,(M.getD q E0).2.2.1)).Nodup:=by
  refine zbb (List.nodup_range.sublist List.filter_sublist) (λx hx y hy e=>?_);obtain ⟨x1,x2⟩:=hlt x hx;obtain ⟨y1,y2⟩:=hlt y hy;rw [Prod.mk.injEq] at e;by_cases h:x<y
  . exact (ziI y2 x h e).elim
  . by_cases h':y<x
    . exact (ziI x2 y h' ⟨e.1.symm,e.2.symm⟩).elim
    . omega
 have:=zdK hnd (m:=zy2 p s s.1.length) (λx hx=>by
  obtain ⟨q,hq,rfl⟩:=List.mem_map.1 hx;obtain ⟨j,hj,home,k,hke,_,_⟩:=zAR V H hf hu hM hS hE (hlt q hq).1;rw [hke];simp only [];have h1:=hc j hj;exact zql ⟨Int.emod_nonneg k J,Int.emod_lt_of_pos k J⟩ hj)
 rw [List.length_map] at this;omega
end
theorem zqn {σ τ:Type} {f:σ->Option (σ⊕τ)} (S:Nat->σ) (N:Nat) (r:τ) {s0:σ} (h0:S 0=s0) (hN:N<big) (hf:∀ i,i<N->f (S i)=Ob (.inl (S (i+1)))) (he:f (S N)=Ob (.inr r)):iter f big s0=Ob r:=by
 subst h0;have key:∀ k i:Nat,i+k=N->Lp f k (S i) r:=by
  intro k;induction k with
  | zero=>
   intro i hi; have:i=N:=J
   subst this; exact Lp.done he
  | succ k ih=>intro i hi; exact Lp.step (hf i J) (ih (i+1) J)
 exact (key N 0 J).big hN
theorem zk8 {α β:Type} {m:Option α} {k:α->Option β} {a:α} {r:Option β} (h:m=Ob a) (hk:k a=r):Zb m k=r:=by rw [h]; exact hk
theorem zvN {p:Plan} {s:Service} {from_ until_:Int} (H:zl3 p s) (hno:¬ (zq0 p s=Od/\(0<=from_/\from_<=until_)/\until_<=200000)):zci p s [] from_ until_=Ob ([],2):=by
 unfold zci;rw [zjd H,Zs];cases hB:zq0 p s with
 | false=>rfl
 | true=>
 have V:=zyq hB;simp only [if_true,Bool.not_true,cond_false,zl4 (zfo V.v) [] Oa,Zs,zha];cases hW:zAe p [] with
 | false=>rfl
 | true=>
 cases h1:inB from_ 0 until_ with
 | false=>rfl
 | true=>
  have h1:=zas.1 h1;have h2:until_>200000:=by
   by_cases q:until_>200000
   ·exact q
   ·exact absurd ⟨hB,h1,by omega⟩ hno
  rw [decide_eq_true h2];rfl
theorem zrd {t:List Task} {y:Yard} (hF:Few t y) (hf:fine t y=Od) {a b:Nat} (ha:a<t.length) (hb:b<t.length):zdX t y a b=Ob (zk6 t y a b,0):=by
 have ht:=hF.t;unfold zdX;have hw:w64 (zq t-1)=(t.length:Int)-1:=by rw [zo]; exact zk J J
 rw [zoc t y hF,hf,Zs,hw,zpc,zpc,zas.2 (show (0:Int)<=a/\(a:Int)<=(t.length:Int)-1 by omega),zas.2 (show (0:Int)<=b/\(b:Int)<=(t.length:Int)-1 by omega)];simp only [if_true,Zs,bne_self_eq_false,cond_false,Bool.not_true];rw [zjv hf J J];rfl
def zm1 (turn:Int) (s:Service):Nat->Int
 | 0=>turn
 | i+1=>min (zm1 turn s i) (ln0 s i).2.2.2.2.1
theorem ztI {turn:Int} {s:Service}:∀ {n i:Nat},i<n->zm1 turn s n<=(ln0 s i).2.2.2.2.1
 | n+1,i,h=>by
  unfold zm1;by_cases e:i=n
  . subst e; exact Int.min_le_right _ _
  . exact Int.le_trans (Int.min_le_left _ _) (ztI J)
theorem ztJ {turn:Int} {s:Service} (ht:0<=turn):∀ {n:Nat},(∀ i,i<n->0<=(ln0 s i).2.2.2.2.1)->0<=zm1 turn s n
 | 0,_=>ht
 | n+1,h=>by
  unfold zm1;have h1:=ztJ ht (n:=n) λi hi=>h i J;have h2:=h n J;omega
structure DOk (D:List (List Int)) (m:Nat):Prop where
 len:D.length=m
 row:∀ i,i<m->(D.getD i []).length=m
 diag:∀ i,i<m->(D.getD i []).getD i 0=0
 rng:∀ i,i<m->∀ j,j<m->-1<=(D.getD i []).getD j 0/\(D.getD i []).getD j 0<=20000
 rows:∀ x∈D,x.length=m
def zvO:Nat->List (List Int)
 | 1=>[[0,-1],[-1,0]]
 | _=>[[0,-1,-1,-1],[-1,0,-1,-1],[-1,-1,0,-1],[-1,-1,-1,0]]
theorem zBW:DOk (zvO 1) 2:=⟨by decide,by decide,by decide,by decide,by decide⟩
theorem zBX:DOk (zvO 2) 4:=⟨by decide,by decide,by decide,by decide,by decide⟩
theorem zyL {n:Nat} (h:1<=n/\n<=2):DOk (zvO n) (2*n):=by
 have:n=1\/n=2:=J
 rcases this with rfl | rfl
 . exact zBW
 . exact zBX
theorem zyM {M:List Trip} {q:Nat} (hq:q<1000) {F:Int->Option (Int⊕(Unit⊕Bool))} (h1:∀ k:Nat,k<q->¬ ((M.getD k E0).1=(M.getD q E0).1/\(M.getD k E0).2.2.1=(M.getD q E0).2.2.1)->F (k:Int)=Ob (.inl ((k:Int)-1))) (h2:∀ r,pvT M q=Ob r->F (r:Int)=Ob (.inr (.inl ()))) (h3:F (-1)=Ob (.inr (.inl ()))):iter F big ((q:Int)-1)=Ob (.inl ()):=by
 cases hp:pvT M q with
 | none=>
  refine zqn (σ:=Int) (τ:=Unit⊕Bool) (λk:Nat=>(q:Int)-1-k) q (.inl ()) J Of (λi hi=>?_) ?_
  . have e:(q:Int)-1-i=((q-1-i:Nat):Int):=J
    show F ((q:Int)-1-i)=Ob (.inl ((q:Int)-1-((i+1:Nat):Int)));rw [e,h1 _ J (ziI hp _ J)];congr 2; omega
  . show F ((q:Int)-1-q)=_;rw [show (q:Int)-1-q=-1 by omega,h3]
 | some r=>
  obtain ⟨r1,_,r3⟩:=zhf hp;refine zqn (σ:=Int) (τ:=Unit⊕Bool) (λk:Nat=>(q:Int)-1-k) (q-1-r) (.inl ()) J Of (λi hi=>?_) ?_
  . have e:(q:Int)-1-i=((q-1-i:Nat):Int):=J
    show F ((q:Int)-1-i)=Ob (.inl ((q:Int)-1-((i+1:Nat):Int)));rw [e,h1 _ J (r3 _ J J)];congr 2; omega
  . show F ((q:Int)-1-((q-1-r:Nat):Int))=_;rw [show (q:Int)-1-((q-1-r:Nat):Int)=(r:Int) by omega,h2 r hp]
theorem zqo {p:Plan} {s:Service} {M:List Trip} {i:Nat} (hi:i<M.length):(zhL p s M).getD i T0=zh5 p s (M.getD i E0):=by
 unfold zhL;rw [zh1 T0 hi];rfl
theorem zjf {p:Plan} {s:Service} {M:List Trip}:(zhL p s M).length=M.length:=zgL _ _
theorem zqp {p:Plan} {s:Service} {x:Trip} {i:Nat} (h:x.1=i):(zh5 p s x).1=2*(i:Int)+cond x.2.1 1 0/\(zh5 p s x).2.1=2*(i:Int)+cond x.2.1 0 1/\(zh5 p s x).2.2.1=x.2.2.2.1/\(zh5 p s x).2.2.2.1=ztv p (ln0 s i) x:=by
 have e:zrb p s x=ztv p (ln0 s i) x:=by unfold zrb ztv zmY; rw [h,Int.toNat_natCast]
 unfold zh5;rw [← e,← h];cases x.2.1
 . exact ⟨by simp,rfl,rfl,rfl⟩
 . exact ⟨rfl,by simp,rfl,rfl⟩
section
variable {p:Plan} {s:Service} (V:zom p s) (H:zl3 p s) {from_ until_:Int} (hf:0<=from_/\from_<=until_) (hu:until_<=200000) {M:List Trip} (hM:M.length<=1000000) (hS:zfr zhC M) (hE:zdb zhC (zts p s [] from_ until_) M)
include V H hf hu hM hS hE
theorem zoi {q:Nat} (hq:q<M.length):∃ i:Nat,i<s.1.length/\(M.getD q E0).1=(i:Int)/\0<=(M.getD q E0).2.2.2.1/\(M.getD q E0).2.2.2.1<=ztv p (ln0 s i) (M.getD q E0)/\ztv p (ln0 s i) (M.getD q E0)<=200000:=by
 obtain ⟨i,hi,home,k,hx,h1,h2⟩:=zAR V H hf hu hM hS hE hq;have hl:=zjZ (lnK V H hi) (V.hb i hi) home;refine ⟨i,hi, ?_⟩;unfold ztv;rw [hx];simp only [true_and];omega
theorem zvP:zk7 s M=Od:=by
 unfold zk7;rw [List.all_eq_true];intro q hq;have hq:=List.mem_range.1 hq;obtain ⟨i,hi,h1,h2,h3,h4⟩:=zoi V H hf hu hM hS hE hq;have h5:q=0\/zhC (M.getD (q-1) E0)<=zhC (M.getD q E0):=by
  by_cases e:q=0
  . exact .inl e
  . exact .inr (zAq V H hf hu hM hS hE J hq)
 unfold zra;show (inB (M.getD q E0).1 0 (zq s.1-1)&&(inB (M.getD q E0).2.2.2.1 0 200000&&(decide (q=0)||!decide (zhC (M.getD q E0)<zhC (M.getD (q-1) E0)))))=Od;rw [h1,zas.2 (show (0:Int)<=i/\(i:Int)<=zq s.1-1 by rw [zo]; omega),zas.2 (show 0<=(M.getD q E0).2.2.2.1/\(M.getD q E0).2.2.2.1<=200000 by omega)];rcases h5 with h | h
 . rw [decide_eq_true h]; rfl
 . rw [decide_eq_false (show ¬ zhC (M.getD q E0)<zhC (M.getD (q-1) E0) by omega)]; simp
variable {D:List (List Int)} (hD:DOk D (2*s.1.length)) {most:Int} (hm:0<=most) (hmy:∀ i,i<s.1.length->most<=(ln0 s i).2.2.2.2.1) (h60:M.length<=60) (h2:s.1.length<=2) {R:List Bool} (hR:R.length=2*s.1.length)
include hD hm hmy
theorem zww {q r:Nat} (hq:q<M.length) (hr:pvT M q=Ob r):zk6 (zhL p s M) (D,most,R,()) r q=Od:=by
 obtain ⟨i,hi,k1,k2,k3,k4⟩:=zoi V H hf hu hM hS hE hq;obtain ⟨r1,⟨r2,_⟩,_⟩:=zhf hr;have hl:zwt M i (M.getD q E0).2.2.1 q=Ob r:=by rw [← k1]; exact hr
 obtain ⟨e1,e2⟩:=zyK V H hf hu hM hS hE hi hq k1 hl;have r2:(M.getD r E0).1=(i:Int):=r2.trans k1;obtain ⟨i2,hi2,j1,j2,j3,j4⟩:=zoi V H hf hu hM hS hE (show r<M.length by omega);have:i2=i:=J
 subst this;have hy:=(lnK V H hi).y;have hml:=hmy _ hi;obtain ⟨a1,a2,a3,a4⟩:=zqp (p:=p) (s:=s) j1;obtain ⟨b1,b2,b3,b4⟩:=zqp (p:=p) (s:=s) k1;unfold zk6;simp only [];rw [Int.toNat_natCast,Int.toNat_natCast,zqo hq,zqo (show r<M.length by omega),a2,a4,b1,b3];have hz:(2*(i2:Int)+cond (M.getD r E0).2.1 0 1).toNat=(2*(i2:Int)+cond (M.getD q E0).2.1 1 0).toNat/\(2*(i2:Int)+cond (M.getD q E0).2.1 1 0).toNat<2*s.1.length:=by
  rw [e1];cases (M.getD r E0).2.1
  . simp only [Bool.not_false,cond_true,cond_false]; and_intros<;>first | trivial | omega
  . simp only [Bool.not_true,cond_true,cond_false]; and_intros<;>first | trivial | omega
 rw [hz.1,hD.diag _ hz.2,zk (n:=ztv p (ln0 s i2) (M.getD r E0)+most) J J,zk J J,decide_eq_true (show (r:Int)<q by omega),decide_eq_true (show ztv p (ln0 s i2) (M.getD r E0)+most+0<=(M.getD q E0).2.2.2.1 by omega)];rfl
include h60 h2 hR
theorem zAD:Few (zhL p s M) (D,most,R,()):=⟨by rw [zjf]; omega,by show R.length<=50; omega,by show D.length<=50; rw [hD.len]; omega,λx hx=>by rw [hD.rows x hx]; omega⟩
theorem zwx:fine (zhL p s M) (D,most,R,())=Od:=by
 have hn:=V.n;have hy:=(lnK V H (show 0<s.1.length by omega)).y;have hmy0:=hmy 0 J;unfold fine;rw [Bool.and_eq_true,Bool.and_eq_true,List.all_eq_true,List.all_eq_true];refine ⟨⟨?_,λi hi=>?_⟩,λq hq=>?_⟩
 . unfold head;rw [zjf];simp only [hD.len,hR,Bool.and_eq_true,decide_eq_true_eq]
   and_intros<;>first | trivial | omega
 . have hi:i<2*s.1.length:=by have:=List.mem_range.1 hi; rw [← hR]; exact this
   unfold zq4;simp only [hR,hD.row i hi,hD.diag i hi,Bool.and_eq_true,decide_eq_true_eq,List.all_eq_true,true_and];exact λj hj=>hD.rng i hi j (List.mem_range.1 hj)
 . have hq:q<M.length:=by have:=List.mem_range.1 hq; rwa [zjf] at this
   obtain ⟨i,hi,k1,k2,k3,k4⟩:=zoi V H hf hu hM hS hE hq;obtain ⟨b1,b2,b3,b4⟩:=zqp (p:=p) (s:=s) k1;unfold zl5;rw [zqo hq,b1,b2,b3,b4];have h6:q=0\/((zhL p s M).getD (q-1) T0).2.2.1<=(M.getD q E0).2.2.2.1:=by
    by_cases e:q=0
    . exact .inl e
    . refine .inr ?_;obtain ⟨i',_,k1',_⟩:=zoi V H hf hu hM hS hE (show q-1<M.length by omega);rw [zqo (show q-1<M.length by omega),(zqp (p:=p) (s:=s) k1').2.2.1];exact zAq V H hf hu hM hS hE J hq
   have hc:(0:Int)<=cond (M.getD q E0).2.1 1 0/\(cond (M.getD q E0).2.1 1 0:Int)<=1:=by cases (M.getD q E0).2.1<;>decide
   have hc':(0:Int)<=cond (M.getD q E0).2.1 0 1/\(cond (M.getD q E0).2.1 0 1:Int)<=1:=by cases (M.getD q E0).2.1<;>decide
   simp only [hR,Bool.and_eq_true,Bool.or_eq_true,decide_eq_true_eq];refine ⟨⟨⟨⟨?_, ?_⟩, ?_⟩, ?_⟩,h6⟩<;>omega
theorem zAE:∃ P Q,zdu (zhL p s M) (D,most,R,())=Ob (P,Q,0)/\(P.length:Int)<=zpe p s s.1.length:=by
 obtain ⟨P,Q,e,l,hl,hlen⟩:=zvM (zAD V H hf hu hM hS hE hD hm hmy h60 h2 hR) (zwx V H hf hu hM hS hE hD hm hmy h60 h2 hR);refine ⟨P,Q,e, ?_⟩;rw [zjf] at hl hlen;have hm':=zCQ (M:=M) (n:=M.length) (g:=zk6 (zhL p s M) (D,most,R,())) (λq r hq hr=>zww V H hf hu hM hS hE hD hm hmy hq hr);have h3:=hl.most _ hm' (λx hx=>(hm'.e x hx).1);have h4:=zBU M (List.range M.length);have h5:=zBV V H hf hu hM hS hE;rw [List.length_range] at h4;omega
end
theorem zpf {p:Plan} {s:Service} (V:zom p s) (H:zl3 p s):∀ {n:Nat},n<=s.1.length->0<=zpe p s n/\zpe p s n<=107200*(n:Int)
 | 0,_=>by unfold zpe; omega
 | n+1,h=>by
  have h1:=zpf V H (n:=n) J;have hb:=V.hb n J;have h2:=ziD (lnK V H (i:=n) J) (h:=hd0 s n) J;unfold zpe;omega
theorem zre (hk:zcy=Ob Od) (p:Plan) (s:Service) (from_ until_ turn:Int) (hs:∀ i,i<s.1.length->LnB (ln0 s i)):zcB p s from_ until_ turn=Ob Od:=by
 unfold zcB;obtain ⟨b,e,q⟩:=zrc p s;rw [e,Zs,hk];cases b with
 | false=>rfl
 | true=>
 obtain ⟨h2,h3⟩:=q rfl;rw [Bool.not_true,cond_false];by_cases ht:turn<0
 . rw [decide_eq_true ht]; rfl
 rw [decide_eq_false ht,cond_false];by_cases hh:s.2.1.length=s.1.length;rotate_left
 . rw [show (zq s.2.1 !=zq s.1)=Od by rw [zo,zo]; simp only [bne_iff_ne,ne_eq]; omega]; rfl
 rw [show (zq s.2.1 !=zq s.1)=Oc by rw [zo,zo,hh]; exact bne_self_eq_false _,Zs,cond_false];have I:zl3 p s:=⟨by omega,by omega,λi hi=>zAB (hs i hi)⟩;by_cases hG:zq0 p s=Od/\(0<=from_/\from_<=until_)/\until_<=200000;rotate_left
 . rw [zvN I hG]; rfl
 obtain ⟨hB,hf,hu⟩:=hG;have V:=zyq hB;obtain ⟨M,m1,m2,m3⟩:=ztt V I (w:=[]) hf hu rfl;rw [m1,Zs];by_cases h5:(M.length:Int)>5000
 . rw [if_pos h5]; rfl
 rw [if_neg h5];by_cases h60:zq M>60
 . rw [decide_eq_true h60]; rfl
 have hM:M.length<=60:=by rw [zo] at h60; omega
 rw [decide_eq_false h60];simp only [bne_self_eq_false,cond_false,Zs];have hn:=V.n;have hM6:M.length<=1000000:=J
 refine zk8 (zqn (σ:=Int×Int×Int) (τ:=(Int×Int)⊕Bool) (λi:Nat=>(zpe p s i,zm1 turn s i,(i:Int))) s.1.length (.inl (zpe p s s.1.length,zm1 turn s s.1.length)) rfl Of (λi hi=>?_) ?_) ?_
 . have hl:=V.l i hi;have hb:=V.hb i hi;have c1:=zpf V I (n:=i) J;have c2:=zpf V I (n:=i+1) J;simp only [za5 hi,cond_true];rw [zI L0 hi,Zs,zI 0 (show i<s.2.1.length by omega),Zs];show Zb (zdg p (ln0 s i) (hd0 s i)) _=_;rw [zBP (I.l i hi),V.v,hl,zas.2 hb,Zs];simp only [Bool.and_self,if_true,bne_self_eq_false,cond_false,Zs];rw [zk (n:=zpe p s i+zfM p (ln0 s i) (hd0 s i)) (by unfold zpe at c2; omega) (by unfold zpe at c2; omega),z7 J];rfl
 . simp only [zba,cond_false]
 simp only [zdN];have hT:=zvP V I hf hu hM6 m2 m3;rw [zAA I h2 J,hB,hT,Zs];simp only [Bool.and_self,if_true];cases hA:(inA p s M&&decide (zq M<=60)) with
 | false=>rfl
 | true=>
 simp only [if_true,bne_self_eq_false,cond_false];have hw:w64 (2*zq s.1)=((2*s.1.length:Nat):Int):=by rw [zo,zk J J]; omega
 rw [hw,zgH J,Zs,zgH J,Zs];refine zk8 (a:=zvO s.1.length) ?_ ?_
 . have:s.1.length=1\/s.1.length=2:=J
   rcases this with h | h
   . rw [h]; rfl
   . rw [h]; rfl
 have hD:=zyL (n:=s.1.length) J;have hmy:∀ i,i<s.1.length->zm1 turn s s.1.length<=(ln0 s i).2.2.2.2.1:=λi hi=>ztI hi;have hm:0<=zm1 turn s s.1.length:=ztJ J λi hi=>(lnK V I hi).y.1;have hR:(List.replicate ((2*s.1.length:Nat):Int).toNat Oc).length=2*s.1.length:=by rw [List.length_replicate,Int.toNat_natCast]
 have hFw:=zAD V I hf hu hM6 m2 m3 hD hm hmy hM h2 hR;have hFn:=zwx V I hf hu hM6 m2 m3 hD hm hmy hM h2 hR;refine zk8 (zqn (σ:=Int) (τ:=Unit⊕Bool) (λi:Nat=>(i:Int)) M.length (.inl ()) rfl Of (λq hq=>?_) ?_) ?_
 . simp only [za5 hq,cond_true];rw [zk (n:=(q:Int)-1) J J];refine zk8 (zyM (M:=M) (q:=q) J (λk hkq hne=>?_) (λr hr=>?_) rfl) ?_
   . rw [zI E0 (show k<M.length by omega),zI E0 hq,decide_eq_true (show (k:Int)>=0 by omega),zk (n:=(k:Int)-1) J J];simp only [cond_true,Zs];by_cases g1:(M.getD k E0).1=(M.getD q E0).1
     . rw [beq_iff_eq.2 g1,cond_true,beq_eq_false_iff_ne.2 (λg2=>hne ⟨g1,g2⟩),cond_false]
     . rw [beq_eq_false_iff_ne.2 g1,cond_false]
   . obtain ⟨r1,⟨r2,r3⟩,_⟩:=zhf hr;rw [zI E0 (show r<M.length by omega),zI E0 hq,decide_eq_true (show (r:Int)>=0 by omega)];simp only [cond_true,Zs];rw [beq_iff_eq.2 r2,beq_iff_eq.2 r3,cond_true,cond_true,zrd hFw hFn (by rw [zjf]; omega) (by rw [zjf]; omega),zww V I hf hu hM6 m2 m3 hD hm hmy hq hr];rfl
   . simp only [zdN];rw [z7 J]
 . simp only [zba,cond_false]
 simp only [zdN];obtain ⟨P,Q,e1,e2⟩:=zAE V I hf hu hM6 m2 m3 hD hm hmy hM h2 hR;refine zk8 e1 ?_;rw [decide_eq_true (show zq P<=zpe p s s.1.length by rw [zo]; exact e2)];rfl
theorem zrf (p:Plan) (s:Service) (from_ until_ turn:Int) (hs:∀ i,i<s.1.length->LnB (ln0 s i)):zcB p s from_ until_ turn=Ob Od:=zre zq3 p s from_ until_ turn hs
end Go.Ai.Sx