/- Sorting: merging with one element alone; merging is right; sorting is right. -/
import Derived.Test.YtppebpagcocogaaGreatT15
import Derived.KernelRfl
set_option linter.unusedSimpArgs false
set_option linter.unusedVariables false
set_option linter.unusedSectionVars false
namespace Go.Ai.Sx
open Option renaming bind->Zb,bind_some->Zs
theorem zuP (x:Trip) (T:List Trip) (e:Int):∀ (B1 P:List Trip),e=((P.length+B1.length:Nat):Int)->(P++x::B1++T).length<1000000000000 ->
    Lp ((λs28=>
cond (decide (s28.1<(e))) (Zb (idx s28.2 (w64 (s28.1+1))) λx31=>
Zb (idx s28.2 s28.1) λx32=>
Zb (idx s28.2 s28.1) λx33=>
Zb (idx ((s28.2).set (Int.toNat s28.1) x31) (w64 (s28.1+1))) λx34=>
some (.inl ((w64 (s28.1+1)),((s28.2).set (Int.toNat s28.1) x31).set (Int.toNat (w64 (s28.1+1))) x32))) (some (.inr s28.2))):(Int×List Trip)->Option ((Int×List Trip)⊕List Trip)) B1.length ((P.length:Int),P++x::B1++T) (P++B1++x::T):=by
  intro B1;induction B1 with
  | nil=>
    intro P he hl;refine Lp.done ?_;subst he;simp
  | cons y B1 ih=>
    intro P he hl;have hl2:=hl;simp only [List.length_append,List.length_cons] at hl2 he;have hr:=ih (P++[y]) (by rw [he]; simp; omega) (by simp only [List.length_append,List.length_cons,List.length_nil]; omega);have e9:P++[y]++B1++x::T=P++y::B1++x::T:=by simp
    rw [e9] at hr;refine Lp.step ?_ hr;have i0:∀ z,idx (P++z::(y::B1)++T) (P.length:Int)=some z:=λz=>by
      rw [show P++z::(y::B1)++T=P++z::(y::B1++T) by simp]; exact zgj _ _ _
    have i1:∀ z,idx (P++z::(y::B1)++T) ((P.length+1:Nat):Int)=some y:=λz=>by
      rw [show P++z::(y::B1)++T=(P++[z])++y::(B1++T) by simp,show P.length+1=(P++[z]).length by simp]; exact zgj _ _ _
    have s1:(P++x::(y::B1)++T).set P.length y=P++y::(y::B1)++T:=by
      rw [show P++x::(y::B1)++T=P++x::(y::B1++T) by simp,zgN]; simp
    have s2:(P++y::(y::B1)++T).set (P.length+1) x=P++[y]++x::B1++T:=by
      rw [show P++y::(y::B1)++T=(P++[y])++y::(B1++T) by simp,show P.length+1=(P++[y]).length by simp,zgN]; simp
    simp only [decide_eq_true (show (P.length:Int)<e by omega),cond_true,zB (show P.length<9223372036854775807 by omega),i1,i0,Zs,Int.toNat_natCast,s1,s2];simp
theorem zxm (y:Trip) (T P:List Trip):∀ (n:Nat) (A2:List Trip) (T:List Trip),A2.length=n->(P++A2++y::T).length<1000000000000 ->
    Lp ((λs64=>
cond (decide (s64.1>(P.length:Int))) (Zb (idx s64.2 (w64 (s64.1-1))) λx67=>
Zb (idx s64.2 s64.1) λx68=>
Zb (idx s64.2 s64.1) λx69=>
Zb (idx ((s64.2).set (Int.toNat s64.1) x67) (w64 (s64.1-1))) λx70=>
some (.inl ((w64 (s64.1-1)),((s64.2).set (Int.toNat s64.1) x67).set (Int.toNat (w64 (s64.1-1))) x68))) (some (.inr s64.2))):(Int×List Trip)->Option ((Int×List Trip)⊕List Trip)) n (((P.length+A2.length:Nat):Int),P++A2++y::T) (P++y::A2++T):=by
  intro n;induction n with
  | zero=>
    intro A2 T hn hl;have:A2=[]:=List.length_eq_zero_iff.1 hn;subst this;refine Lp.done ?_;simp
  | succ n ih=>
    intro A2 T hn hl;obtain ⟨L0,z,rfl⟩:∃ L0 z,A2=L0++[z]:=by
      cases h:A2.reverse with
      | nil=>rw [List.reverse_eq_nil_iff] at h; subst h; simp at hn
      | cons z l=>exact ⟨l.reverse,z,by rw [← List.reverse_reverse A2,h]; simp⟩
    have hL0:L0.length=n:=by simpa using hn
    have hl2:=hl;simp only [List.length_append,List.length_cons,List.length_nil] at hl2;have hr:=ih L0 (z::T) hL0 (by simp only [List.length_append,List.length_cons]; omega);have e9:P++y::L0++z::T=P++y::(L0++[z])++T:=by simp
    rw [e9] at hr;refine Lp.step ?_ hr;have em:w64 (((P.length+(L0++[z]).length:Nat):Int)-1)=((P.length+L0.length:Nat):Int):=by
      simp only [List.length_append,List.length_cons,List.length_nil];rw [ze (by omega) (by omega)]; omega
    have i1:idx (P++(L0++[z])++y::T) ((P.length+(L0++[z]).length:Nat):Int)=some y:=by
      rw [show P.length+(L0++[z]).length=(P++(L0++[z])).length by simp]; exact zgj _ _ _
    have i2:∀ u,idx (P++(L0++[z])++u::T) ((P.length+L0.length:Nat):Int)=some z:=λu=>by
      rw [show P++(L0++[z])++u::T=(P++L0)++z::(u::T) by simp,show P.length+L0.length=(P++L0).length by simp]; exact zgj _ _ _
    have s1:(P++(L0++[z])++y::T).set (P.length+(L0++[z]).length) z=P++(L0++[z])++z::T:=by
      rw [show P.length+(L0++[z]).length=(P++(L0++[z])).length by simp,zgN]
    have s2:(P++(L0++[z])++z::T).set (P.length+L0.length) y=P++L0++y::(z::T):=by
      rw [show P++(L0++[z])++z::T=(P++L0)++z::(z::T) by simp,show P.length+L0.length=(P++L0).length by simp,zgN]
    simp only [decide_eq_true (show ((P.length+(L0++[z]).length:Nat):Int)>(P.length:Int) by simp only [List.length_append,List.length_cons,List.length_nil]; omega),cond_true,em,i1,i2,Zs,Int.toNat_natCast,s1,s2]
section
variable {cmp:(Trip×Trip)->Option Int} {key:Trip->Int} (hc:∀ x y,∃ v,cmp (x,y)=some v/\(v<0↔key x<key y))
include hc
theorem zxn {rec:(List Trip)->Int->Int->Int->((Trip×Trip)->Option (Int))->Option (List Trip)} {P B S:List Trip} {x:Trip} (hB:zfr key B) (hl:(P++[x]++B++S).length<1000000000000) :
    ∃ M,zk rec (P++[x]++B++S) P.length ((P.length+[x].length:Nat):Int) ((P.length+[x].length+B.length:Nat):Int) cmp=some (P++M++S)/\zfr key M/\zcV key ([x]++B) M:=by
  have hl2:=hl;simp only [List.length_append,List.length_cons,List.length_nil] at hl2;have w1:(w64 (((P.length+[x].length:Nat):Int)-(P.length:Int))==1)=true:=by
    rw [List.length_singleton,ze (by omega) (by omega)]; simp; omega
  unfold zk;rw [w1,cond_true];have ix:idx (P++[x]++B++S) (P.length:Int)=some x:=by
    have:=zuO (P:=P) (A:=[x]) (B:=B) (S:=S) (i:=0) (by simp);simpa using this
  obtain ⟨r,h1,h2,h3,h4,h5⟩:=zmd (F:=(λs8=>
cond (decide (s8.1<s8.2)) (Zb (ziK .u64 (IntKind.u64.wrap (w64 (s8.1+s8.2))) 1) λx11=>
Zb (idx (P++[x]++B++S) (w64 x11)) λx12=>
Zb (idx (P++[x]++B++S) (P.length:Int)) λx13=>
Zb (cmp (x12,x13)) λy14=>
cond (decide (y14<0)) (some (.inl ((w64 ((w64 x11)+1)),s8.2))) (some (.inl (s8.1,(w64 x11))))) (some (.inr s8.1)))) (q:=λc=>decide (key (B.getD (c-(P.length+1)) E0)<key x)) (lo:=P.length+[x].length) (hi:=P.length+[x].length+B.length) (by omega) (by rw [List.length_singleton]; omega) (λi j hi1 hij hj=>by
      rw [List.length_singleton] at hi1 hj;obtain ⟨e1,e2⟩:=zje (a:=i) (b:=j) (by omega);simp only [];rw [decide_eq_true (by omega),cond_true,e1,Zs,e2];have e4:(((i+j)/2:Nat):Int)=((P.length+[x].length+((i+j)/2-(P.length+1)):Nat):Int):=by rw [List.length_singleton]; omega
      rw [e4,zxk (by omega),Zs,ix,Zs,zka hc _ _ (λb=>cond b _ _),← e4];rw [zB (by omega)];cases decide (key (B.getD ((i+j)/2-(P.length+1)) E0)<key x)<;>rfl)
    (λi=>by simp only [decide_eq_false (show ¬ (i:Int)<i by omega),cond_false])
  rw [h1,Zs];rw [List.length_singleton] at h2 h3 h4 h5;have eB:B.take (r-(P.length+1))++B.drop (r-(P.length+1))=B:=List.take_append_drop _ _;have lB:(B.take (r-(P.length+1))).length=r-(P.length+1):=by rw [List.length_take]; omega
  have hlt:∀ b∈B.take (r-(P.length+1)),key b<key x:=λb hb=>by
    obtain ⟨j,j1,j2,rfl⟩:=zpv hb;rcases h4 with h | h
    · omega
    · have a1:=zgO hB (i:=j) (j:=r-1-(P.length+1)) (by omega) (by omega);have:=of_decide_eq_true h;omega
  have hge:∀ b∈B.drop (r-(P.length+1)),key x<=key b:=λb hb=>by
    obtain ⟨j,j1,j2,rfl⟩:=zpw hb;rcases h5 with h | h
    · omega
    · have a1:=zgO hB (i:=r-(P.length+1)) (j:=j) j1 j2;have:=of_decide_eq_false h;omega
  have hmv:=zuP x (B.drop (r-(P.length+1))++S) (w64 ((r:Int)-1)) (B.take (r-(P.length+1))) P (by rw [lB,ze (by omega) (by omega)]; omega) (by
    have e:P++x::B.take (r-(P.length+1))++(B.drop (r-(P.length+1))++S)=P++[x]++(B.take (r-(P.length+1))++B.drop (r-(P.length+1)))++S:=by simp; rw [← List.append_assoc,eB]
    rw [e,eB]; exact hl)
  have eD:P++x::B.take (r-(P.length+1))++(B.drop (r-(P.length+1))++S)=P++[x]++B++S:=by
    have e:P++x::B.take (r-(P.length+1))++(B.drop (r-(P.length+1))++S)=P++[x]++(B.take (r-(P.length+1))++B.drop (r-(P.length+1)))++S:=by simp; rw [← List.append_assoc,eB]
    rw [e,eB]
  rw [eD] at hmv;have hB1:=hmv.big (by rw [lB]; simp only [big]; omega);have hsB:=hB;rw [← eB] at hsB;obtain ⟨b1,b2,b3⟩:=zgk.1 hsB;refine ⟨B.take (r-(P.length+1))++x::B.drop (r-(P.length+1)), ?_, ?_, ?_⟩
  · refine (congrArg (λo=>Zb o λt35=>some t35) hB1).trans ?_;rw [Zs]; simp
  · refine zgk.2 ⟨b1,List.pairwise_cons.2 ⟨λb hb=>hge b hb,b2⟩,λa ha b hb=>?_⟩;rcases List.mem_cons.1 hb with rfl | hb
    · have:=hlt a ha; omega
    · exact b3 a ha b hb
  · have e1:[x]++B=([x]++B.take (r-(P.length+1)))++B.drop (r-(P.length+1)):=by rw [List.append_assoc,eB]
    have e2:B.take (r-(P.length+1))++x::B.drop (r-(P.length+1))=(B.take (r-(P.length+1))++[x])++B.drop (r-(P.length+1)):=by simp
    rw [e1,e2];refine (zcV.swap λu hu v hv=>?_).append (zcV.refl _);rw [List.mem_singleton] at hu;subst hu;exact hlt v hv
theorem zuQ {rec:(List Trip)->Int->Int->Int->((Trip×Trip)->Option (Int))->Option (List Trip)} {P A S:List Trip} {y:Trip} (hA:zfr key A) (la:A.length≠1) (hl:(P++A++[y]++S).length<1000000000000) :
    ∃ M,zk rec (P++A++[y]++S) P.length ((P.length+A.length:Nat):Int) ((P.length+A.length+[y].length:Nat):Int) cmp=some (P++M++S)/\zfr key M/\zcV key (A++[y]) M:=by
  have hl2:=hl;simp only [List.length_append,List.length_cons,List.length_nil] at hl2;have w1:(w64 (((P.length+A.length:Nat):Int)-(P.length:Int))==1)=false:=by
    rw [ze (by omega) (by omega)]; simp; omega
  have w2:(w64 (((P.length+A.length+[y].length:Nat):Int)-((P.length+A.length:Nat):Int))==1)=true:=by
    rw [List.length_singleton,ze (by omega) (by omega)]; simp; omega
  unfold zk;rw [w1,w2,cond_false,cond_true];have iy:idx (P++A++[y]++S) ((P.length+A.length:Nat):Int)=some y:=by
    have:=zxk (P:=P) (A:=A) (B:=[y]) (S:=S) (i:=0) (by simp);simpa using this
  obtain ⟨r,h1,h2,h3,h4,h5⟩:=zmd (F:=(λs44=>
cond (decide (s44.1<s44.2)) (Zb (ziK .u64 (IntKind.u64.wrap (w64 (s44.1+s44.2))) 1) λx47=>
Zb (idx (P++A++[y]++S) ((P.length+A.length:Nat):Int)) λx48=>
Zb (idx (P++A++[y]++S) (w64 x47)) λx49=>
Zb (cmp (x48,x49)) λy50=>
cond (!(decide (y50<0))) (some (.inl ((w64 ((w64 x47)+1)),s44.2))) (some (.inl (s44.1,(w64 x47))))) (some (.inr s44.1)))) (q:=λc=>!decide (key y<key (A.getD (c-P.length) E0))) (lo:=P.length) (hi:=P.length+A.length) (by omega) (by omega) (λi j hi1 hij hj=>by
      obtain ⟨e1,e2⟩:=zje (a:=i) (b:=j) (by omega);simp only [];rw [decide_eq_true (by omega),cond_true,e1,Zs,e2,iy,Zs];have e4:(((i+j)/2:Nat):Int)=((P.length+((i+j)/2-P.length):Nat):Int):=by omega
      rw [e4,zuO (by omega),Zs,zka hc _ _ (λb=>cond (!b) _ _),← e4];rw [zB (by omega)];cases decide (key y<key (A.getD ((i+j)/2-P.length) E0))<;>rfl)
    (λi=>by simp only [decide_eq_false (show ¬ (i:Int)<i by omega),cond_false])
  rw [h1,Zs];have eA:A.take (r-P.length)++A.drop (r-P.length)=A:=List.take_append_drop _ _;have lA:(A.take (r-P.length)).length=r-P.length:=by rw [List.length_take]; omega
  have lA2:(A.drop (r-P.length)).length=A.length-(r-P.length):=List.length_drop;have hle:∀ a∈A.take (r-P.length),key a<=key y:=λa ha=>by
    obtain ⟨j,j1,j2,rfl⟩:=zpv ha;rcases h4 with h | h
    · omega
    · have a1:=zgO hA (i:=j) (j:=r-1-P.length) (by omega) (by omega);simp only [Bool.not_eq_true',decide_eq_false_iff_not] at h;omega
  have hgt:∀ a∈A.drop (r-P.length),key y<key a:=λa ha=>by
    obtain ⟨j,j1,j2,rfl⟩:=zpw ha;rcases h5 with h | h
    · omega
    · have a1:=zgO hA (i:=r-P.length) (j:=j) j1 j2;simp only [Bool.not_eq_false',decide_eq_true_eq] at h;omega
  have eD:(P++A.take (r-P.length))++A.drop (r-P.length)++y::S=P++A++[y]++S:=by
    rw [List.append_assoc P,eA]; simp
  have hmv:=zxm y S (P++A.take (r-P.length)) _ (A.drop (r-P.length)) S rfl (by rw [eD]; exact hl);rw [eD] at hmv;have eP:(P++A.take (r-P.length)).length=r:=by rw [List.length_append,lA]; omega
  rw [eP,lA2,show r+(A.length-(r-P.length))=P.length+A.length by omega] at hmv;have hB1:=hmv.big (by simp only [big]; omega);have hsA:=hA;rw [← eA] at hsA;obtain ⟨b1,b2,b3⟩:=zgk.1 hsA;refine ⟨A.take (r-P.length)++y::A.drop (r-P.length), ?_, ?_, ?_⟩
  · refine (congrArg (λo=>Zb o λt71=>some t71) hB1).trans ?_;rw [Zs]; simp
  · refine zgk.2 ⟨b1,List.pairwise_cons.2 ⟨λb hb=>by have:=hgt b hb; omega,b2⟩,λa ha b hb=>?_⟩;rcases List.mem_cons.1 hb with rfl | hb
    · exact hle a ha
    · exact b3 a ha b hb
  · have e1:A++[y]=A.take (r-P.length)++(A.drop (r-P.length)++[y]):=by rw [← List.append_assoc,eA]
    have e2:A.take (r-P.length)++y::A.drop (r-P.length)=A.take (r-P.length)++([y]++A.drop (r-P.length)):=by simp
    rw [e1,e2];refine (zcV.refl _).append (zcV.swap λu hu v hv=>?_);rw [List.mem_singleton] at hv;subst hv;exact hgt u hu
theorem zsy:∀ (k n:Nat),n<=k->zsw key cmp n (zq k)
 | 0,n,hn=>λA B P S hA hB h _ _ _=>by
  have:=List.length_pos_iff.2 hA;omega
 | k+1,n,hn=>λA B P S hA hB h sA sB hl=>by
  have la:=List.length_pos_iff.2 hA;have lb:=List.length_pos_iff.2 hB;show ∃ M,zk (zq k) (P++A++B++S) P.length ((P.length+A.length:Nat):Int) ((P.length+A.length+B.length:Nat):Int) cmp=some (P++M++S)/\_;by_cases h1:A.length=1
  . obtain ⟨x,rfl⟩:=List.length_eq_one_iff.1 h1;exact zxn hc sB hl
  . by_cases h2:B.length=1
    . obtain ⟨y,rfl⟩:=List.length_eq_one_iff.1 h2;exact zuQ hc sA h1 hl
    . exact zxl hc (zsy k (n-1) (by omega)) sA sB hl (by omega) (by omega) (by omega)
end
end Go.Ai.Sx
/- Sorting: slices.SortStableFunc sorts,and equal ones stay in their order. -/
namespace Go.Ai.Sx
open Option renaming bind->Zb,bind_some->Zs
def zxC (n_:Int) (cmp:(Trip×Trip)->Option Int):(Int×Int×List Trip)->Option ((Int×Int×List Trip)⊕(Int×List Trip)):=(λs7=>
cond (decide (s7.2.1<=n_)) (Zb (zy s7.2.2 s7.1 s7.2.1 cmp) λy10=>
some (.inl (s7.2.1,(w64 (s7.2.1+20)),y10))) (some (.inr (s7.1,s7.2.2))))
def zyQ (n_:Int) (cmp:(Trip×Trip)->Option Int) (w_:Int):(Int×Int×List Trip)->Option ((Int×Int×List Trip)⊕(Int×List Trip)):=(λs59=>
cond (decide (s59.2.1<=n_)) (Zb (zq big s59.2.2 s59.1 (w64 (s59.1+w_)) s59.2.1 cmp) λy62=>
some (.inl (s59.2.1,(w64 (s59.2.1+(w64 (2*w_)))),y62))) (some (.inr (s59.1,s59.2.2))))
def zxD (n_:Int) (cmp:(Trip×Trip)->Option Int):(Int×List Trip)->Option ((Int×List Trip)⊕List Trip):=(λs50=>
cond (decide (s50.1<n_)) (Zb (iter (σ:=(Int×Int×(List Trip))) (τ:=(Int×(List Trip))) (λs59=>
cond (decide (s59.2.1<=n_)) (Zb (zq big s59.2.2 s59.1 (w64 (s59.1+s50.1)) s59.2.1 cmp) λy62=>
some (.inl (s59.2.1,(w64 (s59.2.1+(w64 (2*s50.1)))),y62))) (some (.inr (s59.1,s59.2.2)))) big (0,(w64 (2*s50.1)),s50.2)) λt64=>
cond (decide ((w64 (t64.1+s50.1))<n_)) (Zb (zq big t64.2 t64.1 (w64 (t64.1+s50.1)) n_ cmp) λy67=>
some (.inl ((w64 (s50.1*2)),y67))) (some (.inl ((w64 (s50.1*2)),t64.2)))) (some (.inr s50.2)))
def zks (key:Trip->Int) (s:Nat) (Bs:List (List Trip)):Prop:=∀ b∈Bs,b.length=s/\zfr key b
theorem zks.len {key:Trip->Int} {s:Nat}:∀ {Bs:List (List Trip)},zks key s Bs->Bs.flatten.length=s*Bs.length
 | [],_=>by simp
 | b::Bs,h=>by
  have h1:=(h b (by simp)).1;have h2:=zks.len (Bs:=Bs) λc hc=>h c (by simp [hc]);rw [List.flatten_cons,List.length_append,h1,h2,List.length_cons,Nat.mul_add]; omega
theorem zks.snoc {key:Trip->Int} {s:Nat} {Bs:List (List Trip)} {M:List Trip} (h:zks key s Bs) (h1:M.length=s) (h2:zfr key M):zks key s (Bs++[M]):=λb hb=>by
 rcases List.mem_append.1 hb with hb | hb
 . exact h b hb
 . rw [List.mem_singleton] at hb; subst hb; exact ⟨h1,h2⟩
section
variable {cmp:(Trip×Trip)->Option Int} {key:Trip->Int} (hc:∀ x y,∃ v,cmp (x,y)=some v/\(v<0↔key x<key y))
include hc
theorem zsz (N:Nat) (hN:N<100000000000):∀ (m:Nat) (Bs:List (List Trip)) (R:List Trip),R.length<=m->zks key 20 Bs->(Bs.flatten++R).length=N ->
    ∃ (Cs:List (List Trip)) (Q:List Trip),Lp (zxC N cmp) m ((Bs.flatten.length:Int),((Bs.flatten.length+20:Nat):Int),Bs.flatten++R) ((Cs.flatten.length:Int),Cs.flatten++Q)/\zks key 20 Cs/\Q.length<20/\zcV key (Bs.flatten++R) (Cs.flatten++Q):=by
  have stop:∀ (m:Nat) (Bs:List (List Trip)) (R:List Trip),R.length<20->zks key 20 Bs->(Bs.flatten++R).length=N->∃ (Cs:List (List Trip)) (Q:List Trip),Lp (zxC N cmp) m ((Bs.flatten.length:Int),((Bs.flatten.length+20:Nat):Int),Bs.flatten++R) ((Cs.flatten.length:Int),Cs.flatten++Q)/\zks key 20 Cs/\Q.length<20/\zcV key (Bs.flatten++R) (Cs.flatten++Q):=by
    intro m Bs R hR hB hn;rw [List.length_append] at hn;refine ⟨Bs,R,Lp.done ?_,hB,hR,zcV.refl _⟩;unfold zxC;simp only [decide_eq_false (show ¬ ((Bs.flatten.length+20:Nat):Int)<=(N:Int) by omega),cond_false]
  intro m;induction m with
  | zero=>intro Bs R h hB hn; exact stop 0 Bs R (by omega) hB hn
  | succ m ih=>
    intro Bs R h hB hn;by_cases hR:R.length<20
    · exact stop _ Bs R hR hB hn
    · have hn2:=hn;rw [List.length_append] at hn2;have eR:R.take 20++R.drop 20=R:=List.take_append_drop _ _;have l1:(R.take 20).length=20:=by rw [List.length_take]; omega
      have l2:(R.drop 20).length=R.length-20:=List.length_drop;have eD:Bs.flatten++R.take 20++R.drop 20=Bs.flatten++R:=by rw [List.append_assoc,eR]
      obtain ⟨M,h1,h2,h3⟩:=zvt hc Bs.flatten (R.take 20) (R.drop 20) (by rw [eD]; omega);have lM:M.length=20:=by rw [h3.len,l1]
      have eF:(Bs++[M]).flatten=Bs.flatten++M:=by simp
      have lF:(Bs++[M]).flatten.length=Bs.flatten.length+20:=by rw [eF,List.length_append,lM]
      obtain ⟨Cs,Q,h4,h5,h6,h7⟩:=ih (Bs++[M]) (R.drop 20) (by omega) (hB.snoc lM h2) (by rw [List.length_append,lF,l2]; omega);rw [eD,l1] at h1;refine ⟨Cs,Q,Lp.step ?_ h4,h5,h6, ?_⟩
      · unfold zxC;simp only [decide_eq_true (show ((Bs.flatten.length+20:Nat):Int)<=(N:Int) by omega),cond_true,h1,Zs];rw [lF,eF,ze (by omega) (by omega)];rfl
      · refine zcV.trans ?_ h7;rw [← eD,eF];exact ((zcV.refl _).append h3).append (zcV.refl _)
theorem zsA (N s:Nat) (hN:N<100000000000) (hs:0<s/\s<N):∀ (m:Nat) (Cs Bs:List (List Trip)) (R:List Trip),Bs.length<=m->zks key (2*s) Cs->zks key s Bs->R.length<s->(Cs.flatten++Bs.flatten++R).length=N ->
    ∃ (Es As:List (List Trip)),Lp (zyQ N cmp s) m ((Cs.flatten.length:Int),((Cs.flatten.length+2*s:Nat):Int),Cs.flatten++Bs.flatten++R) ((Es.flatten.length:Int),Es.flatten++As.flatten++R)/\zks key (2*s) Es/\zks key s As/\As.length<=1/\zcV key (Cs.flatten++Bs.flatten++R) (Es.flatten++As.flatten++R):=by
  have stop:∀ (m:Nat) (Cs Bs:List (List Trip)) (R:List Trip),Bs.length<=1->zks key (2*s) Cs->zks key s Bs->R.length<s->(Cs.flatten++Bs.flatten++R).length=N->∃ (Es As:List (List Trip)),Lp (zyQ N cmp s) m ((Cs.flatten.length:Int),((Cs.flatten.length+2*s:Nat):Int),Cs.flatten++Bs.flatten++R) ((Es.flatten.length:Int),Es.flatten++As.flatten++R)/\zks key (2*s) Es/\zks key s As/\As.length<=1/\zcV key (Cs.flatten++Bs.flatten++R) (Es.flatten++As.flatten++R):=by
    intro m Cs Bs R h1 hC hB hR hn;have hbl:=hB.len;simp only [List.length_append] at hn;have:s*Bs.length<=s:=by
      rcases Nat.le_one_iff_eq_zero_or_eq_one.1 h1 with h | h<;>rw [h]<;>omega
    refine ⟨Cs,Bs,Lp.done ?_,hC,hB,h1,zcV.refl _⟩;unfold zyQ;simp only [decide_eq_false (show ¬ ((Cs.flatten.length+2*s:Nat):Int)<=(N:Int) by omega),cond_false]
  intro m;induction m with
  | zero=>intro Cs Bs R h hC hB hR hn; exact stop 0 Cs Bs R (by omega) hC hB hR hn
  | succ m ih=>
    intro Cs Bs R h hC hB hR hn
    match Bs,h,hB,hn with
    | [],_,hB,hn=>exact stop _ Cs [] R (by simp) hC hB hR hn
    | [X],_,hB,hn=>exact stop _ Cs [X] R (by simp) hC hB hR hn
    | X::Y::Bs,h,hB,hn=>
      obtain ⟨lX,sX⟩:=hB X (by simp);obtain ⟨lY,sY⟩:=hB Y (by simp);have hB2:zks key s Bs:=λb hb=>hB b (by simp [hb]);have hn2:=hn;simp only [List.flatten_cons,List.length_append] at hn2;obtain ⟨M,h1,h2,h3⟩:=zsy hc big (X.length+Y.length) (by simp only [big]; omega) X Y Cs.flatten (Bs.flatten++R) (List.length_pos_iff.1 (by omega)) (List.length_pos_iff.1 (by omega)) (Nat.le_refl _) sX sY (by simp only [List.length_append]; omega);have lM:M.length=2*s:=by rw [h3.len,List.length_append]; omega
      have eF:(Cs++[M]).flatten=Cs.flatten++M:=by simp
      have lF:(Cs++[M]).flatten.length=Cs.flatten.length+2*s:=by rw [eF,List.length_append,lM]
      obtain ⟨Es,As,h4,h5,h6,h7,h8⟩:=ih (Cs++[M]) Bs R (by simp only [List.length_cons] at h; omega) (hC.snoc lM h2) hB2 hR (by simp only [List.length_append,lF]; omega);have eD:Cs.flatten++X++Y++(Bs.flatten++R)=Cs.flatten++(X::Y::Bs).flatten++R:=by simp
      have eD2:Cs.flatten++M++(Bs.flatten++R)=(Cs++[M]).flatten++Bs.flatten++R:=by simp
      rw [eD,eD2,lX,lY,show Cs.flatten.length+s+s=Cs.flatten.length+2*s by omega] at h1;refine ⟨Es,As,Lp.step ?_ h4,h5,h6,h7, ?_⟩
      · unfold zyQ;have e1:w64 ((Cs.flatten.length:Int)+(s:Int))=((Cs.flatten.length+s:Nat):Int):=by rw [ze (by omega) (by omega)]; omega
        simp only [decide_eq_true (show ((Cs.flatten.length+2*s:Nat):Int)<=(N:Int) by omega),cond_true,e1,h1,Zs];rw [lF,ze (n:=2*(s:Int)) (by omega) (by omega),ze (by omega) (by omega)];simp only [Option.some.injEq,Sum.inl.injEq,Prod.mk.injEq,true_and,and_true];omega
      · refine zcV.trans ?_ h8;rw [← eD,← eD2];have e3:Cs.flatten++X++Y=Cs.flatten++(X++Y):=by simp
        rw [e3];exact ((zcV.refl _).append h3).append (zcV.refl _)
theorem zsB (N:Nat) (hN:N<100000000000):∀ (m s:Nat) (Bs:List (List Trip)) (R:List Trip),0<s->N<=m+s->zks key s Bs->R.length<s->zfr key R->(Bs.flatten++R).length=N ->
    ∃ M,Lp (zxD N cmp) m ((s:Int),Bs.flatten++R) M/\zfr key M/\zcV key (Bs.flatten++R) M:=by
  have stop:∀ (m s:Nat) (Bs:List (List Trip)) (R:List Trip),0<s->N<=s->zks key s Bs->R.length<s->zfr key R->(Bs.flatten++R).length=N->∃ M,Lp (zxD N cmp) m ((s:Int),Bs.flatten++R) M/\zfr key M/\zcV key (Bs.flatten++R) M:=by
    intro m s Bs R h0 hs hB hR hR2 hn;refine ⟨Bs.flatten++R,Lp.done ?_, ?_,zcV.refl _⟩
    · unfold zxD;simp only [decide_eq_false (show ¬ (s:Int)<(N:Int) by omega),cond_false]
    · have hbl:=hB.len;rw [List.length_append,hbl] at hn
      match Bs,hB,hn with
      | [],_,_=>simpa using hR2
      | [X],hB,hn=>
        have:R=[]:=List.length_eq_zero_iff.1 (by simp at hn; omega);subst this;simpa using (hB X (by simp)).2
      | X::Y::Bs,hB,hn=>
        simp only [List.length_cons,Nat.mul_add] at hn;omega
  intro m;induction m with
  | zero=>intro s Bs R h0 hs hB hR hR2 hn; exact stop 0 s Bs R h0 (by omega) hB hR hR2 hn
  | succ m ih=>
    intro s Bs R h0 hs hB hR hR2 hn;by_cases hsn:N<=s
    · exact stop _ s Bs R h0 hsn hB hR hR2 hn
    · have hn2:=hn;rw [List.length_append] at hn2;have hbl:Bs.length<=Bs.flatten.length:=by
        rw [hB.len];exact Nat.le_mul_of_pos_left _ h0
      obtain ⟨Es,As,h1,h2,h3,h4,h5⟩:=zsA hc N s hN ⟨h0,by omega⟩ Bs.length [] Bs R (Nat.le_refl _) (λb hb=>by simp at hb) hB hR (by simpa using hn);simp only [List.flatten_nil,List.length_nil,List.nil_append,Nat.zero_add] at h1 h5;have hB1:=h1.big (by simp only [big]; omega);have hlen:=h5.len;simp only [List.length_append] at hlen;have hEl:=h2.len
      -- what stands behind the blocks
      have last:∃ (Q:List Trip) ,Q.length<2*s/\zfr key Q/\zcV key (As.flatten++R) Q/\(cond (decide (w64 ((Es.flatten.length:Int)+(s:Int))<(N:Int))) (Zb (zq big (Es.flatten++As.flatten++R) (Es.flatten.length:Int) (w64 ((Es.flatten.length:Int)+(s:Int))) (N:Int) cmp) λy67=>(some (.inl ((w64 ((s:Int)*2)),y67)):Option ((Int×List Trip)⊕List Trip))) (some (.inl ((w64 ((s:Int)*2)),Es.flatten++As.flatten++R))))=some (.inl (((2*s:Nat):Int),Es.flatten++Q)):=by
        have e2:w64 ((s:Int)*2)=((2*s:Nat):Int):=by rw [ze (by omega) (by omega)]; omega
        have e1:w64 ((Es.flatten.length:Int)+(s:Int))=((Es.flatten.length+s:Nat):Int):=by rw [ze (by omega) (by omega)]; omega
        rw [e1,e2]
        match As,h3,h4 with
        | [],_,_=>
          simp only [List.flatten_nil,List.length_nil] at hlen;refine ⟨R,by omega,hR2,by simpa using zcV.refl (key:=key) R, ?_⟩;rw [decide_eq_false (by omega),cond_false]; simp
        | [X],h3,_=>
          obtain ⟨lX,sX⟩:=h3 X (by simp);simp only [List.flatten_cons,List.flatten_nil,List.append_nil] at hlen ⊢;by_cases hr:R=[]
          · subst hr;refine ⟨X,by omega,sX,by simpa using zcV.refl (key:=key) X, ?_⟩;simp only [List.length_nil] at hlen hn2;rw [decide_eq_false (by omega),cond_false]; simp
          · have hrl:=List.length_pos_iff.2 hr;obtain ⟨M,g1,g2,g3⟩:=zsy hc big (X.length+R.length) (by simp only [big]; omega) X R Es.flatten [] (List.length_pos_iff.1 (by omega)) hr (Nat.le_refl _) sX hR2 (by simp only [List.length_append,List.length_nil]; omega);refine ⟨M,by rw [g3.len,List.length_append]; omega,g2,g3, ?_⟩;simp only [List.append_nil] at g1;rw [lX,show Es.flatten.length+s+R.length=N by omega] at g1;rw [decide_eq_true (by omega),cond_true,g1,Zs]
        | X::Y::As,_,h4=>simp at h4
      obtain ⟨Q,q1,q2,q3,q4⟩:=last;have hst:zcV key (Bs.flatten++R) (Es.flatten++Q):=by
        refine h5.trans ?_;rw [List.append_assoc];exact (zcV.refl _).append q3
      obtain ⟨M,m1,m2,m3⟩:=ih (2*s) Es Q (by omega) (by omega) h2 q1 q2 (by rw [hst.len]; exact hn);refine ⟨M,Lp.step ?_ m1,m2,hst.trans m3⟩;unfold zxD;simp only [decide_eq_true (show (s:Int)<(N:Int) by omega),cond_true];have e0:w64 (2*(s:Int))=((2*s:Nat):Int):=by rw [ze (by omega) (by omega)]; omega
      rw [e0];unfold zyQ at hB1;rw [e0] at hB1;exact (congrArg (λo=>Zb o λt64:Int×List Trip=>cond (decide ((w64 (t64.1+(s:Int)))<(N:Int))) (Zb (zq big t64.2 t64.1 (w64 (t64.1+(s:Int))) (N:Int) cmp) λy67=>
        (some (.inl ((w64 ((s:Int)*2)),y67)):Option ((Int×List Trip)⊕List Trip))) (some (.inl ((w64 ((s:Int)*2)),t64.2)))) hB1).trans q4
theorem sorts (D:List Trip) (hl:D.length<100000000000):∃ M,zD D cmp=some M/\zfr key M/\zcV key D M:=by
 obtain ⟨Cs,Q,h1,h2,h3,h4⟩:=zsz hc D.length hl D.length [] D (Nat.le_refl _) (λb hb=>by simp at hb) (by simp);simp only [List.flatten_nil,List.length_nil,List.nil_append,Nat.zero_add] at h1 h4;have hB:=h1.big (by simp only [big]; omega);have hlen:=h4.len;rw [List.length_append] at hlen;obtain ⟨M,g1,g2,g3⟩:=zvt hc Cs.flatten Q [] (by simp only [List.length_append,List.length_nil]; omega);simp only [List.append_nil] at g1;rw [show Cs.flatten.length+Q.length=D.length by omega] at g1;have hst:zcV key D (Cs.flatten++M):=h4.trans ((zcV.refl _).append g3);obtain ⟨M2,m1,m2,m3⟩:=zsB hc D.length hl D.length 20 Cs M (by omega) (by omega) h2 (by rw [g3.len]; exact h3) g2 (by rw [hst.len]);have hB2:=m1.big (by simp only [big]; omega);refine ⟨M2, ?_,m2,hst.trans m3⟩;unfold zD zah;rw [zu];have e1:iter (zxC (D.length:Int) cmp) big (0,20,D)=some ((Cs.flatten.length:Int),Cs.flatten++Q):=hB;unfold zxC at e1;rw [e1,Zs];simp only [];rw [g1,Zs];have e2:iter (zxD (D.length:Int) cmp) big (20,Cs.flatten++M)=some M2:=hB2;unfold zxD at e2;rw [e2]; rfl
end
end Go.Ai.Sx
/- Sorting: there is one list in order with equal ones in their order. -/
namespace Go.Ai.Sx
open Option renaming bind->Zb,bind_some->Zs
end Go.Ai.Sx
/- Sorting: an order in two steps; choosing the least one. -/
namespace Go.Ai.Sx
open Option renaming bind->Zb,bind_some->Zs
theorem zxo {key:Trip->Int} {lt2:Trip->Trip->Prop} {L M:List Trip} (hs:zfr key M) (he:zcV key L M) (hL:L.Pairwise λa b=>key a=key b->lt2 a b):M.Pairwise λa b=>key a<key b\/(key a=key b/\lt2 a b):=by
 rw [List.pairwise_iff_forall_sublist];intro a b hab;have h1:key a<=key b:=List.pairwise_iff_forall_sublist.1 hs hab;by_cases hk:key a=key b
 . right;refine ⟨hk, ?_⟩;have h2:=hab.filter (λx=>key x==key a);rw [he (key a)] at h2;have h3:[a,b].filter (λx=>key x==key a)=[a,b]:=by simp [hk]
   rw [h3] at h2;exact List.pairwise_iff_forall_sublist.1 hL (h2.trans List.filter_sublist) hk
 . left; omega
def zkb {E:Type} (lt:E->E->Bool) (x:E):Option E->Bool
 | none=>true
 | some y=>lt x y
def zvv {E:Type} (lt:E->E->Bool) (ok:E->Bool):List E->Option E->Option E
 | [],a=>a
 | x::l,a=>zvv lt ok l (if ok x&&zkb lt x a then some x else a)
theorem zgP {E:Type} {lt:E->E->Bool} {ok:E->Bool} {m:E} (hm:ok m=true) (hi:lt m m=false):∀ {l:List E} {a:Option E},(m∈l\/a=some m)->(∀ x∈l,ok x=true->x=m\/(lt m x=true/\lt x m=false))->(∀ y,a=some y->y=m\/lt m y=true)->zvv lt ok l a=some m
 | [],a,h,_,_=>by
  rcases h with h | h
  . cases h
  . exact h
 | x::l,a,h,hl,ha=>by
  show zvv lt ok l (if ok x&&zkb lt x a then some x else a)=some m;by_cases hx:ok x=true
  . rcases hl x (by simp) hx with rfl | ⟨h1,h2⟩
    . cases a with
      | none=>simp only [hm,zkb,Bool.and_self,if_true]; exact zgP hm hi (.inr rfl) (λy hy=>hl y (by simp [hy])) (λy hy=>by cases hy; exact .inl rfl)
      | some y=>
       simp only [hm,zkb,Bool.true_and];by_cases hy:lt x y=true
       . rw [if_pos hy];exact zgP hm hi (.inr rfl) (λz hz=>hl z (by simp [hz])) (λz hz=>by cases hz; exact .inl rfl)
       . rw [if_neg hy];rcases ha y rfl with rfl | h3
         . exact zgP hm hi (.inr rfl) (λz hz=>hl z (by simp [hz])) (λz hz=>by cases hz; exact .inl rfl)
         . exact absurd h3 hy
    . have hne:a=some m\/m∈l:=by
       rcases h with h | h
       . rcases List.mem_cons.1 h with rfl | h
         . rw [hi] at h1; cases h1
         . exact .inr h
       . exact .inl h
      cases a with
      | none=>
       simp only [hx,zkb,Bool.and_self,if_true];refine zgP hm hi (.inl ?_) (λy hy=>hl y (by simp [hy])) (λy hy=>by cases hy; exact .inr h1);rcases hne with h | h
       . cases h
       . exact h
      | some y=>
       simp only [hx,zkb,Bool.true_and];by_cases hy:lt x y=true
       . rw [if_pos hy];refine zgP hm hi (.inl ?_) (λz hz=>hl z (by simp [hz])) (λz hz=>by cases hz; exact .inr h1);rcases hne with h | h
         . cases h; rw [h2] at hy; cases hy
         . exact h
       . rw [if_neg hy];exact zgP hm hi (hne.symm) (λz hz=>hl z (by simp [hz])) ha
  . rw [if_neg (by simp [hx])];refine zgP hm hi ?_ (λz hz=>hl z (by simp [hz])) ha;rcases h with h | h
    . rcases List.mem_cons.1 h with rfl | h
      . exact absurd hm hx
      . exact .inl h
    . exact .inr h
end Go.Ai.Sx
/- Service: a day's trips,as the program makes them. -/
namespace Go.Ai.Sx
open Option renaming bind->Zb,bind_some->Zs
theorem zjf {p:Plan} {l:Line} {home:Bool} {h o from_:Int} (j:Nat):zeU p l home h o from_ j=zeU p l home h o from_ 0+j*h:=by
 induction j with
 | zero=>simp
 | succ j ih=>
  rw [← zg8 (p:=p) (l:=l) home j,ih,Int.natCast_add,Int.add_mul];omega
def zzq (p:Plan) (l:Line) (home:Bool) (h o from_ last before:Int):Nat:=((before-last-zeU p l home h o from_ 0)/h+1).toNat
section
variable {p:Plan} {l:Line} (K:zqj p l) {h o from_:Int} (hh:30<=h/\h<=7200) (ho:0<=o/\o<=100000) (hf:0<=from_/\from_<=1000000) (home:Bool)
include K hh ho hf
theorem zyR {last before:Int} (hl:0<=last) (hb:0<=before/\before<=200000):zxh p l home h o from_ last before (zzq p l home h o from_ last before)/\((zzq p l home h o from_ last before:Nat):Int)*30<=max 0 (before-from_+30):=by
 have h0:=zh1 K hh ho hf home 0;unfold zzq;generalize hX:before-last-zeU p l home h o from_ 0=X;have h1:=Int.emod_add_mul_ediv X h;have h2:=Int.emod_nonneg X (show h≠0 by omega);have h3:=Int.emod_lt_of_pos X (show 0<h by omega);have h4:0<=X/h->X/h*30<=X:=λq=>by
  have:X/h*30<=X/h*h:=Int.mul_le_mul_of_nonneg_left (by omega) q;rw [Int.mul_comm (X/h) h] at this;omega
 have h5:max 0 X<=200000:=by omega
 have h6:(((X/h+1).toNat:Nat):Int)*30<=max 0 (before-from_+30):=by
  generalize X/h=Y at h4;omega
 refine ⟨⟨by omega,λj hj=>?_, ?_⟩,h6⟩
 . have hj2:(j:Int)<=X/h:=by omega
   have:=(Int.le_ediv_iff_mul_le (show 0<h by omega)).1 hj2;rw [zjf j];omega
 . have hj2:¬ ((((X/h+1).toNat:Nat):Int)<=X/h):=by omega
   rw [Int.le_ediv_iff_mul_le (show 0<h by omega)] at hj2;rw [zjf];omega
end
def mkT (p:Plan) (s:Service) (i:Nat) (home:Bool) (from_:Int) (j:Nat):Trip:=((i:Int),home,zxA p (ln0 s i) home (hd0 s i) (of0 s i) from_ j,zeU p (ln0 s i) home (hd0 s i) (of0 s i) from_ j,())
def zuR (p:Plan) (s:Service) (i:Nat) (home:Bool) (from_:Int) (w:List Works) (j:Nat):Bool:=zxz (zcW (ln0 s i) home).1 w (zeU p (ln0 s i) home (hd0 s i) (of0 s i) from_ j) (zct p (ln0 s i) (zcW (ln0 s i) home))
def trN (p:Plan) (s:Service) (w:List Works) (i:Nat) (home:Bool) (from_:Int) (n:Nat):List Trip:=((List.range n).filter (zuR p s i home from_ w)).map (mkT p s i home from_)
def trC (p:Plan) (s:Service) (i:Nat) (home:Bool) (from_ until_:Int):Nat:=zzq p (ln0 s i) home (hd0 s i) (of0 s i) from_ (zct p (ln0 s i) (zcW (ln0 s i) home)) until_
def trL (p:Plan) (s:Service) (w:List Works) (from_ until_:Int) (i:Nat) (home:Bool):List Trip:=trN p s w i home from_ (trC p s i home from_ until_)
def zki (p:Plan) (s:Service) (w:List Works) (from_ until_:Int) (n:Nat):List (List Trip):=(List.range n).flatMap λi=>[trL p s w from_ until_ i false,trL p s w from_ until_ i true]
theorem zpx {p:Plan} {s:Service} {w:List Works} {i:Nat} {home:Bool} {from_:Int} (n:Nat):trN p s w i home from_ (n+1)=trN p s w i home from_ n++(if zuR p s i home from_ w n then [mkT p s i home from_ n] else []):=by
 unfold trN;rw [List.range_succ,List.filter_append,List.map_append];congr 1;by_cases h:zuR p s i home from_ w n=true
 . simp [List.filter_cons,h]
 . simp [List.filter_cons,h]
theorem zme {p:Plan} {s:Service} {w:List Works} {i:Nat} {home:Bool} {from_:Int} (n:Nat):(trN p s w i home from_ n).length<=n:=by
 unfold trN;rw [List.length_map];have:=List.length_filter_le (zuR p s i home from_ w) (List.range n);rwa [List.length_range] at this
theorem zgQ {p:Plan} {s:Service} {w:List Works} {a b:Int} (n:Nat):zki p s w a b (n+1)=zki p s w a b n++[trL p s w a b n false]++[trL p s w a b n true]:=by
 unfold zki;rw [List.range_succ,List.flatMap_append];simp
theorem zpy {p:Plan} {s:Service} {w:List Works} {a b:Int} (n:Nat):(zki p s w a b n).length=2*n:=by
 induction n with
 | zero=>rfl
 | succ n ih=>
  rw [zgQ];simp only [List.length_append,ih,List.length_cons,List.length_nil];omega
section
variable {p:Plan} {s:Service} (V:zsY p s) (H:zqk p s) {w:List Works} (hw:w.length<=9223372036854775807) {from_ until_:Int} (hf:0<=from_/\from_<=until_) (hu:until_<=200000)
include V H hf hu
theorem zsC {i:Nat} (hi:i<s.1.length):0<=of0 s i/\of0 s i<=100000:=by
 have h1:=V.ob i hi;have h2:=V.hb i hi;omega
theorem zpz {i:Nat} (hi:i<s.1.length) (home:Bool):zxh p (ln0 s i) home (hd0 s i) (of0 s i) from_ (zct p (ln0 s i) (zcW (ln0 s i) home)) until_ (trC p s i home from_ until_)/\((trC p s i home from_ until_:Nat):Int)*30<=until_-from_+30:=by
 have K:=lnK V H hi;have KC:zqi p (ln0 s i) (zcW (ln0 s i) home):=csO K;have l1:=KC.l1;have:=zyR K (V.hb i hi) (zsC V H hf hu hi) (from_:=from_) (by omega) home (last:=zct p (ln0 s i) (zcW (ln0 s i) home)) (by omega) (before:=until_) (by omega);refine ⟨this.1, ?_⟩;have h2:=this.2;unfold trC;omega
def zyS (p:Plan) (s:Service) (w:List Works) (until_:Int) (i:Nat) (home:Bool):List Trip->(Int×Int)->Option (List Trip⊕List Trip):=(λs183 x168=>
Zb (zz (rnS p (ln0 s i)) (cond home 1 0)) λy186=>
cond (decide ((w64 (x168.1+y186))>until_)) (some (.inr s183)) (Zb (zaf (rnS p (ln0 s i)) (cond home 1 0) x168.1 w) λy188=>
cond (y188) (Zb (zcY 32 s183 ([(((i:Int),(cond home 1 0==(1:Int)),x168.2,x168.1,()):Trip)])) λx190=>
some (.inl x190)) (some (.inl s183))))
include hw in
theorem zvw {i:Nat} (hi:i<s.1.length) (home:Bool):zx (zyS p s w until_ i home) [] (rnS p (ln0 s i)) (cond home 1 0) (hd0 s i) (of0 s i) from_=some (.inr (trL p s w from_ until_ i home)):=by
 have K:=lnK V H hi;have KC:zqi p (ln0 s i) (zcW (ln0 s i) home):=csO K;have l1:=KC.l1;have l2:=KC.l2;have hh:=V.hb i hi;have ho:=zsC V H hf hu hi;obtain ⟨C,_⟩:=zpz V H hf hu hi home;have hbd:=zvs K hh ho (from_:=from_) (by omega) home (by omega) (show 0<=until_/\until_<=200000 by omega) C;have hla:zz (rnS p (ln0 s i)) (cond home 1 0)=some (zct p (ln0 s i) (zcW (ln0 s i) home)):=by
  have:=zj7 K home;rw [this]; cases home<;>rfl
 have hside:(cond home 1 0==(1:Int))=home:=by cases home<;>rfl
 refine zxg K hh ho (from_:=from_) (by omega) home (N:=trC p s i home from_ until_) (by have:=C.b; omega) (step:=zyS p s w until_ i home) (λj=>trN p s w i home from_ j) (trL p s w from_ until_ i home) (by have:=hbd _ (Nat.le_refl _); omega) (λj hj=>?_) ?_
 . have h1:=C.i j hj;have h2:=hbd j (by omega);have hjb:=C.b;unfold zyS;simp only [hla,Zs,hside];rw [ze (n:=zeU p (ln0 s i) home (hd0 s i) (of0 s i) from_ j+_) (by omega) (by omega),decide_eq_false (by omega),cond_false,zyO K home (by omega) w hw,Zs,zpx];have hm:zxz (zcW (ln0 s i) home).1 w (zeU p (ln0 s i) home (hd0 s i) (of0 s i) from_ j) (zct p (ln0 s i) (zcW (ln0 s i) home))=zuR p s i home from_ w j:=rfl;rw [hm];cases zuR p s i home from_ w j with
   | false=>simp
   | true=>
    have hl:=zme (p:=p) (s:=s) (w:=w) (i:=i) (home:=home) (from_:=from_) j;simp only [cond_true,if_true];rw [zaT (by simp; omega),Zs];rfl
 . have h1:=C.e;have h2:=hbd _ (Nat.le_refl _);unfold zyS;simp only [hla,Zs];rw [ze (n:=zeU p (ln0 s i) home (hd0 s i) (of0 s i) from_ _+_) (by omega) (by omega),decide_eq_true (by omega),cond_true];rfl
include hw in
theorem zsD {i:Nat} (hi:i<s.1.length) (acc:List (List Trip)) (ha:acc.length<=1000):iter (σ:=((List (List Trip))×Int)) (τ:=(List (List Trip))) (λs157=>
cond (decide (s157.2<2)) (Zb (idx s.2.1 (i:Int)) λx165=>
Zb (idx s.2.2.1 (i:Int)) λx166=>
Zb (z6 (rnS p (ln0 s i)) s157.2 x165 x166 from_) λy167=>
Zb (zx (σ:=(List Trip)) (τ:=(List Trip)) (λs183 x168=>
Zb (zz (rnS p (ln0 s i)) s157.2) λy186=>
cond (decide ((w64 (x168.1+y186))>until_)) (some (.inr s183)) (Zb (zaf (rnS p (ln0 s i)) s157.2 x168.1 w) λy188=>
cond (y188) (Zb (zcY 32 s183 ([(((i:Int),(s157.2==1),x168.2,x168.1,()):Trip)])) λx190=>
some (.inl x190)) (some (.inl s183)))) ([]) y167.1 y167.2.1 y167.2.2.1 y167.2.2.2.1 y167.2.2.2.2) λt192=>
alt (λb194=>Zb (zcY 24 s157.1 ([b194])) λx197=>
some (.inl (x197,(w64 (s157.2+1))))) (λb195=>Zb (zcY 24 s157.1 ([b195])) λx200=>
some (.inl (x200,(w64 (s157.2+1))))) t192) (some (.inr s157.1))) big (acc,0)=some (acc++[trL p s w from_ until_ i false]++[trL p s w from_ until_ i true]):=by
 have hlh:=V.h;have hlo:=V.o;have a1:idx s.2.1 (i:Int)=some (hd0 s i):=zt (l:=s.2.1) 0 (by omega);have a2:idx s.2.2.1 (i:Int)=some (of0 s i):=zt (l:=s.2.2.1) 0 (by omega);have hd:∀ (r:zn) (a b c d:Int),z6 r a b c d=some (r,a,b,c,d):=λ_ _ _ _ _=>rfl;have e0:=zvw V H hw hf hu hi false;have e1:=zvw V H hw hf hu hi true;unfold zyS at e0 e1;simp only [cond_true,cond_false] at e0 e1;refine (Lp.step (N:=1) (s':=(acc++[trL p s w from_ until_ i false],1)) ?_ (Lp.step (N:=0) (s':=(acc++[trL p s w from_ until_ i false]++[trL p s w from_ until_ i true],2)) ?_ (Lp.done (N:=0) rfl))).big (by simp only [big]; omega)
 . simp only [show decide ((0:Int)<2)=true from rfl,cond_true,a1,a2,hd,Zs];rw [e0,Zs,zjW,zaT (by simp; omega)];rfl
 . simp only [show decide ((1:Int)<2)=true from rfl,cond_true,a1,a2,hd,Zs];rw [e1,Zs,zjW,zaT (by simp; omega)];rfl
end
theorem zxp {n:Nat} (hn:n<=100000000):z8 (n:Int)=some []:=by
 unfold z8;rw [show w64 ((0:Int)-0)=0 from rfl,Int.sub_zero,ze (by omega) (by omega),decide_eq_false (by omega)];by_cases h:n=0
 . subst h; rfl
 . rw [decide_eq_true (by omega)];simp only [cond_false,cond_true];unfold zn7;rw [if_pos (by omega),Zs];unfold slz;have:(List.replicate (n:Int).toNat ((0,false,0,0,()):Trip)).isEmpty=false:=by
    rw [List.isEmpty_eq_false_iff];intro e;have:=congrArg List.length e;simp at this;omega
   rw [this]; rfl
theorem zsE (ls:List (List Trip)) (hl:ls.length<=1000000) (hs:ls.flatten.length<=100000000):zV ls=some ls.flatten:=by
  unfold zV;have hfl:∀ i,(ls.take i).flatten.length<=ls.flatten.length:=λi=>by
    have h:=List.take_append_drop i ls;have h2:ls.flatten.length=(ls.take i).flatten.length+(ls.drop i).flatten.length:=by
      conv=>lhs; rw [← h,List.flatten_append,List.length_append]
    omega
  have hsn:∀ i (h:i<ls.length),(ls.take (i+1)).flatten=(ls.take i).flatten++ls.getD i []:=λi h=>by
    rw [List.take_add_one,List.flatten_append];simp [List.getD,h]
  have k1:∀ k i:Nat,i+k=ls.length->Lp (λs4:Int×Int=>
cond (decide (s4.2<(zr ls))) (Zb (idx ls s4.2) λx7=>
cond (decide ((w64 (s4.1+(zr x7)))<0)) (none) (some (Sum.inl ((w64 (s4.1+(zr x7))),(w64 (s4.2+1)))))) (some (.inr s4.1))) k (((ls.take i).flatten.length:Nat),(i:Int)) ((ls.flatten.length:Nat):Int):=by
    intro k;induction k with
    | zero=>
      intro i hi;have:i=ls.length:=by omega
      subst this;refine Lp.done ?_;simp only [zS,cond_false,List.take_length]
    | succ k ih=>
      intro i hi;have hil:i<ls.length:=by omega
      have h1:=hfl (i+1);have h2:=hsn i hil;have h3:(ls.take (i+1)).flatten.length=(ls.take i).flatten.length+(ls.getD i []).length:=by rw [h2,List.length_append]
      refine Lp.step ?_ (ih (i+1) (by omega));simp only [zR hil,cond_true,zt [] hil,Zs,zB (show i<9223372036854775807 by omega)];rw [zu,ze (by omega) (by omega),decide_eq_false (by omega),cond_false,h3];congr 3
  have k2:∀ k i:Nat,i+k=ls.length->Lp (λs17:List Trip×Int=>
cond (decide (s17.2<(zr ls))) (Zb (idx ls s17.2) λx20=>
Zb (zcY 32 s17.1 x20) λx21=>
some (Sum.inl (x21,(w64 (s17.2+1))))) (some (.inr s17.1))) k ((ls.take i).flatten,(i:Int)) ls.flatten:=by
    intro k;induction k with
    | zero=>
      intro i hi;have:i=ls.length:=by omega
      subst this;refine Lp.done ?_;simp only [zS,cond_false,List.take_length]
    | succ k ih=>
      intro i hi;have hil:i<ls.length:=by omega
      have h1:=hfl (i+1);have h2:=hsn i hil;have h3:(ls.take (i+1)).flatten.length=(ls.take i).flatten.length+(ls.getD i []).length:=by rw [h2,List.length_append]
      refine Lp.step ?_ (ih (i+1) (by omega));simp only [zR hil,cond_true,zt [] hil,Zs,zB (show i<9223372036854775807 by omega)];rw [zaT (by omega),Zs,h2]
  have e1:=(k1 ls.length 0 (by omega)).big (by simp only [big]; omega);have e2:=(k2 ls.length 0 (by omega)).big (by simp only [big]; omega);rw [show (((ls.take 0).flatten.length:Nat):Int)=0 from rfl,show ((0:Nat):Int)=0 from rfl] at e1;rw [show (ls.take 0).flatten=[] from rfl,show ((0:Nat):Int)=0 from rfl] at e2;rw [e1,Zs,zxp hs,Zs,e2];rfl
def ziV (x:Trip):Int:=x.2.2.2.1
theorem zxq (x y:Trip):∃ v,zb5 (x,y).1 (x,y).2=some v/\(v<0↔ziV x<ziV y):=by
 unfold zb5 zds ziV;have hN:∀ z:Int,zbf z=some false:=λz=>by
  unfold zbf;simp
 simp only [hN,Zs,cond_false];by_cases h:x.2.2.2.1<y.2.2.2.1
 . rw [decide_eq_true h];exact ⟨-1,rfl,by simp [h]⟩
 . rw [decide_eq_false h];by_cases h2:x.2.2.2.1>y.2.2.2.1
   . rw [decide_eq_true h2];exact ⟨1,rfl,by simp [h]⟩
   . rw [decide_eq_false h2];exact ⟨0,rfl,by simp [h]⟩
section
variable {p:Plan} {s:Service} (V:zsY p s) (H:zqk p s) {w:List Works} {from_ until_:Int} (hf:0<=from_/\from_<=until_) (hu:until_<=200000)
include V H hf hu
def zov (p:Plan) (s:Service) (w:List Works) (from_ until_:Int):List Trip:=(zki p s w from_ until_ s.1.length).flatten
theorem zmf (n:Nat) (hn:n<=s.1.length):((zki p s w from_ until_ n).flatten.length:Int)*15<=n*(until_-from_+30):=by
 induction n with
 | zero=>simp [zki]
 | succ n ih=>
  have h1:=ih (by omega);have a:=(zpz V H hf hu (i:=n) (by omega) false).2;have b:=(zpz V H hf hu (i:=n) (by omega) true).2;have c:=zme (p:=p) (s:=s) (w:=w) (i:=n) (home:=false) (from_:=from_) (trC p s n false from_ until_);have d:=zme (p:=p) (s:=s) (w:=w) (i:=n) (home:=true) (from_:=from_) (trC p s n true from_ until_);rw [zgQ,List.flatten_append,List.flatten_append,List.length_append,List.length_append];simp only [List.flatten_cons,List.flatten_nil,List.append_nil];unfold trL;rw [Int.natCast_add n 1,Int.add_mul (n:Int)];omega
theorem znw (hwk:zsZ p w=true):∃ M,zaY p s w from_ until_=some (if (M.length:Int)>5000 then ([],3) else (M,0))/\zfr ziV M/\zcV ziV (zov p s w from_ until_) M:=by
  have hn:=V.n;have hw:w.length<=9223372036854775807:=by
    unfold zsZ at hwk;rw [Bool.and_eq_true] at hwk;have h1:=of_decide_eq_true hwk.1;rw [zu] at h1;omega
  have hlen:=zmf V H (w:=w) hf hu s.1.length (Nat.le_refl _);have hal:(zov p s w from_ until_).length<=100000000:=by
    unfold zov;have:(s.1.length:Int)*(until_-from_+30)<=20*200030:=Int.mul_le_mul (by omega) (by omega) (by omega) (by omega);omega
  obtain ⟨M,m1,m2,m3⟩:=sorts (cmp:=λx=>zb5 x.1 x.2) (key:=ziV) zxq (zov p s w from_ until_) (by omega);refine ⟨M, ?_,m2,m3⟩;unfold zaY;rw [zk8 H,if_pos (zxe V H),Zs];simp only [Bool.not_true,cond_false,zla (zcy V.v) w hw,hwk,zgL,zau.2 hf,Zs];rw [decide_eq_false (show ¬ until_>200000 by omega),cond_false];have key:∀ k i:Nat,i+k=s.1.length->Lp (λs108:List (List Trip)×Int=>
cond (decide (s108.2<(zr (s.1.map (rnS p))))) (Zb (idx (s.1.map (rnS p)) s108.2) λx111=>
Zb (iter (σ:=((List (List Trip))×Int)) (τ:=(List (List Trip))) (λs157=>
cond (decide (s157.2<2)) (Zb (idx s.2.1 s108.2) λx165=>
Zb (idx s.2.2.1 s108.2) λx166=>
Zb (z6 x111 s157.2 x165 x166 from_) λy167=>
Zb (zx (σ:=(List Trip)) (τ:=(List Trip)) (λs183 x168=>
Zb (zz x111 s157.2) λy186=>
cond (decide ((w64 (x168.1+y186))>until_)) (some (.inr s183)) (Zb (zaf x111 s157.2 x168.1 w) λy188=>
cond (y188) (Zb (zcY 32 s183 ([((s108.2,(s157.2==1),x168.2,x168.1,()):Trip)])) λx190=>
some (.inl x190)) (some (.inl s183)))) ([]) y167.1 y167.2.1 y167.2.2.1 y167.2.2.2.1 y167.2.2.2.2) λt192=>
alt (λb194=>Zb (zcY 24 s157.1 ([b194])) λx197=>
some (.inl (x197,(w64 (s157.2+1))))) (λb195=>Zb (zcY 24 s157.1 ([b195])) λx200=>
some (.inl (x200,(w64 (s157.2+1))))) t192) (some (.inr s157.1))) big (s108.1,0)) λt202=>
some (.inl (t202,(w64 (s108.2+1))))) (some (.inr s108.1))) k (zki p s w from_ until_ i,(i:Int)) (zki p s w from_ until_ s.1.length):=by
    intro k;induction k with
    | zero=>
      intro i hi;have:i=s.1.length:=by omega
      subst this;refine Lp.done ?_;simp only [];rw [decide_eq_false (by rw [zu,List.length_map]; omega),cond_false]
    | succ k ih=>
      intro i hi;have hil:i<s.1.length:=by omega
      refine Lp.step ?_ (ih (i+1) (by omega));have a4:idx (s.1.map (rnS p)) (i:Int)=some (rnS p (ln0 s i)):=zyN (i:=(i:Int)) (by omega);have a5:decide ((i:Int)<zr (s.1.map (rnS p)))=true:=decide_eq_true (by rw [zu,List.length_map]; omega);have hside:=zsD V H hw hf hu hil (zki p s w from_ until_ i) (by rw [zpy]; omega);simp only [a5,cond_true,a4,Zs];rw [hside,Zs,zgQ,zB (by omega)]
  have hL:=(key s.1.length 0 (by omega)).big (by simp only [big]; omega);rw [show zki p s w from_ until_ 0=[] from rfl,show ((0:Nat):Int)=0 from rfl] at hL;rw [hL,Zs];unfold zaK;rw [zsE _ (by rw [zpy]; omega) hal,Zs,show (zki p s w from_ until_ s.1.length).flatten=zov p s w from_ until_ from rfl,m1];simp only [Zs];rw [zu];by_cases h5:(M.length:Int)>5000
  · rw [decide_eq_true h5,if_pos h5]; rfl
  · rw [decide_eq_false h5,if_neg h5]; rfl
end
end Go.Ai.Sx
/- Service: a day's trips,as the reference collects them. -/
namespace Go.Ai.Sx
open Option renaming bind->Zb,bind_some->Zs
def rdF (p:Plan) (s:Service) (w:List Works) (until_:Int) (i:Nat) (home:Bool) (x102 y103 y107 y111:Int):(List Trip×Int)->Option ((List Trip×Int)⊕List Trip):=(λs120=>
cond (decide ((w64 ((w64 (y103+(w64 (s120.2*x102))))+y107))<=until_)) (Zb (zcR s120.2 y111) λy123=>
Zb (zdN s w (((i:Int),home,y123,(w64 (y103+(w64 (s120.2*x102)))),()):Trip) y107) λy125=>
cond (y125) (Zb (zcY 32 s120.1 ([(((i:Int),home,y123,(w64 (y103+(w64 (s120.2*x102)))),()):Trip)])) λx127=>
some (.inl (x127,(w64 (s120.2+1))))) (some (.inl (s120.1,(w64 (s120.2+1)))))) (some (.inr s120.1)))
section
variable {p:Plan} {s:Service} (V:zsY p s) (H:zqk p s) {w:List Works} (hw:w.length<=9223372036854775807) {from_ until_:Int} (hf:0<=from_/\from_<=until_) (hu:until_<=200000)
include V H hf hu
theorem zAh {i:Nat} (hi:i<s.1.length) (home:Bool):-3000<=zhy p (ln0 s i) home (hd0 s i) (of0 s i) from_/\zhy p (ln0 s i) home (hd0 s i) (of0 s i) from_<=10000:=by
 have K:=lnK V H hi;have hh:=V.hb i hi;have ho:=zsC V H hf hu hi;have hob:=V.ob i hi;have hbb:=znv K hh ho home;have hb0:=zh1 K hh ho (from_:=from_) (by omega) home 0;have hb1:=zsu K hh ho (from_:=from_) (by omega) home;unfold zeU at hb0 hb1;rw [show zhy p (ln0 s i) home (hd0 s i) (of0 s i) from_+((0:Nat):Int)=zhy p (ln0 s i) home (hd0 s i) (of0 s i) from_ by omega] at hb0 hb1;generalize zhy p (ln0 s i) home (hd0 s i) (of0 s i) from_=K0 at *
 constructor
 . by_cases q:K0 < -3000
   . have h6:K0*hd0 s i<=-3001*hd0 s i:=Int.mul_le_mul_of_nonneg_right (by omega) (by omega);omega
   . omega
 . by_cases q:10000<K0
   . have h1:10001*hd0 s i<=K0*hd0 s i:=Int.mul_le_mul_of_nonneg_right (by omega) (by omega);omega
   . omega
include hw in
theorem zxr {i:Nat} (hi:i<s.1.length) (home:Bool) (acc:List Trip) (ha:acc.length<=100000000):iter (rdF p s w until_ i home (hd0 s i) (zfI p (ln0 s i) home (hd0 s i) (of0 s i)) (zct p (ln0 s i) (zcW (ln0 s i) home)) (zh0 p (ln0 s i) (hd0 s i))) big (acc,zhy p (ln0 s i) home (hd0 s i) (of0 s i) from_)=some (acc++trL p s w from_ until_ i home):=by
 have K:=lnK V H hi;have KC:zqi p (ln0 s i) (zcW (ln0 s i) home):=csO K;have l1:=KC.l1;have l2:=KC.l2;have hh:=V.hb i hi;have ho:=zsC V H hf hu hi;have hbb:=znv K hh ho home;have hK0:=zAh V H hf hu hi home;obtain ⟨c1,c2,c3,c4,c5⟩:=znr K (h:=hd0 s i) (by omega);obtain ⟨C,_⟩:=zpz V H hf hu hi home;have hNb:=C.b;have hbd:=zvs K hh ho (from_:=from_) (by omega) home (by omega) (show 0<=until_/\until_<=200000 by omega) C;have hway:(zcW (ln0 s i) home).1.length<=9223372036854775807:=by have:=(zgJ KC.C.w).n; omega
 unfold trL;generalize hN:trC p s i home from_ until_=N at *
 have key:∀ k j:Nat,j+k=N->Lp (rdF p s w until_ i home (hd0 s i) (zfI p (ln0 s i) home (hd0 s i) (of0 s i)) (zct p (ln0 s i) (zcW (ln0 s i) home)) (zh0 p (ln0 s i) (hd0 s i))) k (acc++trN p s w i home from_ j,zhy p (ln0 s i) home (hd0 s i) (of0 s i) from_+j) (acc++trN p s w i home from_ N):=by
  intro k;induction k with
  | zero=>
   intro j hj;have:j=N:=by omega
   subst this;have h1:=C.e;have h2:=hbd j (Nat.le_refl _);have hT:zfI p (ln0 s i) home (hd0 s i) (of0 s i)+(zhy p (ln0 s i) home (hd0 s i) (of0 s i) from_+j)*hd0 s i=zeU p (ln0 s i) home (hd0 s i) (of0 s i) from_ j:=rfl;refine Lp.done ?_;unfold rdF;simp only [];rw [ze (n:=(zhy p (ln0 s i) home (hd0 s i) (of0 s i) from_+(j:Int))*hd0 s i) (by omega) (by omega),hT,ze (n:=zeU p (ln0 s i) home (hd0 s i) (of0 s i) from_ j) (by omega) (by omega),ze (by omega) (by omega),decide_eq_false (by omega),cond_false]
  | succ k ih=>
   intro j hj;have h1:=C.i j (by omega);have h2:=hbd j (by omega);have hT:zfI p (ln0 s i) home (hd0 s i) (of0 s i)+(zhy p (ln0 s i) home (hd0 s i) (of0 s i) from_+j)*hd0 s i=zeU p (ln0 s i) home (hd0 s i) (of0 s i) from_ j:=rfl;have m1:w64 ((zhy p (ln0 s i) home (hd0 s i) (of0 s i) from_+(j:Int))*hd0 s i)=(zhy p (ln0 s i) home (hd0 s i) (of0 s i) from_+(j:Int))*hd0 s i:=ze (by omega) (by omega);have m2:w64 (zfI p (ln0 s i) home (hd0 s i) (of0 s i)+(zhy p (ln0 s i) home (hd0 s i) (of0 s i) from_+(j:Int))*hd0 s i)=zeU p (ln0 s i) home (hd0 s i) (of0 s i) from_ j:=by rw [hT,ze (by omega) (by omega)]
   have m3:decide (w64 (zeU p (ln0 s i) home (hd0 s i) (of0 s i) from_ j+zct p (ln0 s i) (zcW (ln0 s i) home))<=until_)=true:=by rw [ze (by omega) (by omega)]; exact decide_eq_true (by omega)
   have m4:w64 (zhy p (ln0 s i) home (hd0 s i) (of0 s i) from_+(j:Int)+1)=zhy p (ln0 s i) home (hd0 s i) (of0 s i) from_+((j+1:Nat):Int):=by rw [ze (by omega) (by omega)]; omega
   have m5:(zhy p (ln0 s i) home (hd0 s i) (of0 s i) from_+(j:Int))%zh0 p (ln0 s i) (hd0 s i)=zxA p (ln0 s i) home (hd0 s i) (of0 s i) from_ j:=rfl;have hmay:=zxf (s:=s) (w:=w) hw hi home hway (car:=zxA p (ln0 s i) home (hd0 s i) (of0 s i) from_ j) (t:=zeU p (ln0 s i) home (hd0 s i) (of0 s i) from_ j) (last:=zct p (ln0 s i) (zcW (ln0 s i) home)) (by omega) (by omega);have hm:zxz (zcW (ln0 s i) home).1 w (zeU p (ln0 s i) home (hd0 s i) (of0 s i) from_ j) (zct p (ln0 s i) (zcW (ln0 s i) home))=zuR p s i home from_ w j:=rfl;rw [hm] at hmay;have hl:=zme (p:=p) (s:=s) (w:=w) (i:=i) (home:=home) (from_:=from_) j;have hsn:=zpx (p:=p) (s:=s) (w:=w) (i:=i) (home:=home) (from_:=from_) j;refine Lp.step ?_ (ih (j+1) (by omega));unfold rdF;simp only [m1,m2,m3,cond_true,zot (show 0<zh0 p (ln0 s i) (hd0 s i) by omega) (by omega),m5,Zs,hmay,m4];rw [hsn];cases zuR p s i home from_ w j with
   | false=>simp
   | true=>
    simp only [cond_true,if_true];rw [zaT (by simp; omega),Zs,List.append_assoc];rfl
 have hL:=(key N 0 (by omega)).big (by simp only [big]; omega);rw [show trN p s w i home from_ 0=[] from rfl,List.append_nil,show zhy p (ln0 s i) home (hd0 s i) (of0 s i) from_+((0:Nat):Int)=zhy p (ln0 s i) home (hd0 s i) (of0 s i) from_ by omega] at hL;exact hL
def rsF (p:Plan) (s:Service) (w:List Works) (from_ until_:Int) (i:Int):(List Trip×Int)->Option ((List Trip×Int)⊕List Trip):=(λs99=>
cond (decide (s99.2<2)) (Zb (idx s.2.1 i) λx102=>
Zb (zbO p s i (s99.2==1)) λy103=>
Zb (idx s.1 i) λx106=>
Zb (za9 p x106 (s99.2==1)) λy107=>
Zb (idx s.1 i) λx110=>
Zb (zde p x110 x102) λy111=>
Zb (ze8 (w64 (from_-y103)) x102) λy112=>
Zb (iter (σ:=((List Trip)×Int)) (τ:=(List Trip)) (λs120=>
cond (decide ((w64 ((w64 (y103+(w64 (s120.2*x102))))+y107))<=until_)) (Zb (zcR s120.2 y111) λy123=>
Zb (zdN s w ((i,(s99.2==1),y123,(w64 (y103+(w64 (s120.2*x102)))),()):Trip) y107) λy125=>
cond (y125) (Zb (zcY 32 s120.1 ([((i,(s99.2==1),y123,(w64 (y103+(w64 (s120.2*x102)))),()):Trip)])) λx127=>
some (.inl (x127,(w64 (s120.2+1))))) (some (.inl (s120.1,(w64 (s120.2+1)))))) (some (.inr s120.1))) big (s99.1,y112)) λt129=>
some (.inl (t129,(w64 (s99.2+1))))) (some (.inr s99.1)))
include hw in
theorem zsF {i:Nat} (hi:i<s.1.length) (home:Bool) (acc:List Trip) (ha:acc.length<=100000000):rsF p s w from_ until_ (i:Int) (acc,cond home 1 0)=some (.inl (acc++trL p s w from_ until_ i home,cond home 2 1)):=by
 have K:=lnK V H hi;have hh:=V.hb i hi;have ho:=zsC V H hf hu hi;have hbb:=znv K hh ho home;have hlh:=V.h;have a1:idx s.2.1 (i:Int)=some (hd0 s i):=zt (l:=s.2.1) 0 (by omega);have a0:idx s.1 (i:Int)=some (ln0 s i):=zt L0 hi;have hs:(cond home 1 0==(1:Int))=home:=by cases home<;>rfl
 have hlt:decide ((cond home 1 0:Int)<2)=true:=by cases home<;>rfl
 have hup:ze8 (w64 (from_-zfI p (ln0 s i) home (hd0 s i) (of0 s i))) (hd0 s i)=some (zhy p (ln0 s i) home (hd0 s i) (of0 s i) from_):=by
  rw [ze (by omega) (by omega),zAf hh (by omega)];unfold zhy;rw [show -(from_-zfI p (ln0 s i) home (hd0 s i) (of0 s i))=zfI p (ln0 s i) home (hd0 s i) (of0 s i)-from_ by omega]
 have hL:=zxr V H hw hf hu hi home acc ha;unfold rdF at hL;unfold rsF;simp only [hlt,cond_true,a0,a1,Zs,hs,zpu V H hi home,zss V H hi home,zpt V H hi hh,hup];rw [hL,Zs];cases home<;>rfl
theorem zkc (n:Nat):(zki p s w from_ until_ (n+1)).flatten=(zki p s w from_ until_ n).flatten++trL p s w from_ until_ n false++trL p s w from_ until_ n true:=by
 rw [zgQ,List.flatten_append,List.flatten_append];simp
theorem zsG (n:Nat) (hn:n<=s.1.length):(zki p s w from_ until_ n).flatten.length<=10000000:=by
 have h1:=zmf V H (w:=w) hf hu n hn;have h2:=V.n;have:(n:Int)*(until_-from_+30)<=20*200030:=Int.mul_le_mul (by omega) (by omega) (by omega) (by omega);omega
include hw in
theorem zsH:iter (σ:=((List Trip)×Int)) (τ:=(List Trip)) (λs66=>
cond (decide (s66.2<(zr s.1))) (Zb (iter (rsF p s w from_ until_ s66.2) big (s66.1,0)) λt131=>
some (.inl (t131,(w64 (s66.2+1))))) (some (.inr s66.1))) big ([],0)=some (zov p s w from_ until_):=by
  have hn:=V.n;have key:∀ k i:Nat,i+k=s.1.length->Lp (λs66:List Trip×Int=>
cond (decide (s66.2<(zr s.1))) (Zb (iter (rsF p s w from_ until_ s66.2) big (s66.1,0)) λt131=>
some (.inl (t131,(w64 (s66.2+1))))) (some (.inr s66.1))) k ((zki p s w from_ until_ i).flatten,(i:Int)) (zov p s w from_ until_):=by
    intro k;induction k with
    | zero=>
      intro i hi;have:i=s.1.length:=by omega
      subst this;refine Lp.done ?_;simp only [zS,cond_false];rfl
    | succ k ih=>
      intro i hi;have hil:i<s.1.length:=by omega
      refine Lp.step ?_ (ih (i+1) (by omega));have b0:=zsG V H (w:=w) hf hu i (by omega);have b1:=zsG V H (w:=w) hf hu (i+1) (by omega);rw [zkc V H hf hu,List.length_append,List.length_append] at b1;have e0:=zsF V H hw hf hu hil false (zki p s w from_ until_ i).flatten (by omega);have e1:=zsF V H hw hf hu hil true ((zki p s w from_ until_ i).flatten++trL p s w from_ until_ i false) (by rw [List.length_append]; omega);simp only [cond_true,cond_false] at e0 e1;have e2:∀ x:List Trip,rsF p s w from_ until_ (i:Int) (x,2)=some (.inr x):=λx=>rfl;have hin:=(Lp.step (N:=1) e0 (Lp.step (N:=0) e1 (Lp.done (N:=0) (e2 _)))).big (by simp only [big]; omega);simp only [zR hil,cond_true];rw [hin,Zs,zkc V H hf hu,zB (by omega)]
  have hL:=(key s.1.length 0 (by omega)).big (by simp only [big]; omega);rw [show (zki p s w from_ until_ 0).flatten=[] from rfl,show ((0:Nat):Int)=0 from rfl] at hL;exact hL
end
end Go.Ai.Sx
/- Service: the law of the trips. -/
namespace Go.Ai.Sx
open Option renaming bind->Zb,bind_some->Zs
def zkj (a b:Trip):Bool:=if ziV a=ziV b then (if a.1=b.1 then !a.2.1&&b.2.1 else decide (a.1<b.1)) else decide (ziV a<ziV b)
theorem zsI (a b:Trip):zal a b=some (zkj a b):=by
 unfold zal zkj ziV;by_cases h:a.2.2.2.1=b.2.2.2.1
 . rw [if_pos h,h,bne_self_eq_false,cond_false];by_cases h2:a.1=b.1
   . rw [if_pos h2,h2,bne_self_eq_false,cond_false];cases a.2.1<;>rfl
   . rw [if_neg h2,show (a.1 !=b.1)=true by simpa using h2,cond_true]
 . rw [if_neg h,show (a.2.2.2.1 !=b.2.2.2.1)=true by simpa using h,cond_true]
def zyT (a b:Trip):Prop:=a.1<b.1\/(a.1=b.1/\a.2.1=false/\b.2.1=true)
theorem zsJ {a b:Trip} (h:ziV a<ziV b\/(ziV a=ziV b/\zyT a b)):zkj a b=true/\zkj b a=false:=by
 unfold zkj;rcases h with h | ⟨h,h2⟩
 . rw [if_neg (by omega),if_neg (by omega),decide_eq_true h,decide_eq_false (by omega)];exact ⟨rfl,rfl⟩
 . rw [if_pos h,if_pos h.symm];rcases h2 with h2 | ⟨h2,h3,h4⟩
   . rw [if_neg (by omega),if_neg (by omega),decide_eq_true h2,decide_eq_false (by omega)];exact ⟨rfl,rfl⟩
   . rw [if_pos h2,if_pos h2.symm,h3,h4];exact ⟨rfl,rfl⟩
theorem zsK (a:Trip):zkj a a=false:=by
 unfold zkj;rw [if_pos rfl,if_pos rfl];cases a.2.1<;>rfl
theorem znx {p:Plan} {s:Service} {w:List Works} {i:Nat} {home:Bool} {from_:Int} {n:Nat} {x:Trip} (h:x∈trN p s w i home from_ n):x.1=(i:Int)/\x.2.1=home:=by
 unfold trN at h;obtain ⟨j,_,rfl⟩:=List.mem_map.1 h;exact ⟨rfl,rfl⟩
theorem zyU {p:Plan} {s:Service} {w:List Works} {i:Nat} {home:Bool} {from_:Int} {n:Nat} (hh:1<=hd0 s i):(trN p s w i home from_ n).Pairwise λa b=>ziV a=ziV b->zyT a b:=by
 unfold trN;rw [List.pairwise_map];refine List.Pairwise.filter _ (List.pairwise_lt_range.imp λ{a b} hab=>?_);intro he;exfalso;have h1:zeU p (ln0 s i) home (hd0 s i) (of0 s i) from_ a=zeU p (ln0 s i) home (hd0 s i) (of0 s i) from_ b:=he;rw [zjf a,zjf b] at h1;have h2:((a:Int)+1)*hd0 s i<=b*hd0 s i:=Int.mul_le_mul_of_nonneg_right (by omega) (by omega);rw [Int.add_mul,Int.one_mul] at h2;omega
section
variable {p:Plan} {s:Service} (V:zsY p s) (H:zqk p s) {w:List Works} {from_ until_:Int} (hf:0<=from_/\from_<=until_) (hu:until_<=200000)
include V H hf hu
theorem zyV (n:Nat) (hn:n<=s.1.length):(zki p s w from_ until_ n).flatten.Pairwise (λa b=>ziV a=ziV b->zyT a b)/\∀ x∈(zki p s w from_ until_ n).flatten,x.1<(n:Int):=by
 induction n with
 | zero=>exact ⟨List.Pairwise.nil,λx hx=>by cases hx⟩
 | succ n ih=>
  obtain ⟨h1,h2⟩:=ih (by omega);have hh:=V.hb n (by omega);rw [zkc V H hf hu];refine ⟨?_,λx hx=>?_⟩
  . rw [List.pairwise_append,List.pairwise_append];refine ⟨⟨h1,zyU (by omega),λa ha b hb _=>?_⟩,zyU (by omega),λa ha b hb _=>?_⟩
    . have:=h2 a ha;have hb:=(znx hb).1;exact .inl (by omega)
    . have hb:=znx hb;rcases List.mem_append.1 ha with ha | ha
      . have:=h2 a ha;exact .inl (by omega)
      . have ha:=znx ha;exact .inr ⟨by omega,ha.2,hb.2⟩
  . rcases List.mem_append.1 hx with hx | hx
    . rcases List.mem_append.1 hx with hx | hx
      . have:=h2 x hx; omega
      . have:=(znx hx).1; omega
    . have:=(znx hx).1; omega
end
def zpA (lt:Trip->Trip->Bool) (ok:Trip->Bool) (A:List Trip):Nat->Option Nat
 | 0=>none
 | i+1=>if (ok (A.getD i E0)&&zkb lt (A.getD i E0) ((zpA lt ok A i).map λj=>A.getD j E0))=true then some i else zpA lt ok A i
theorem zkd {lt:Trip->Trip->Bool} {ok:Trip->Bool} {A:List Trip} (i:Nat):zpA lt ok A (i+1)=if (ok (A.getD i E0)&&zkb lt (A.getD i E0) ((zpA lt ok A i).map λj=>A.getD j E0))=true then some i else zpA lt ok A i:=rfl
theorem zny {lt:Trip->Trip->Bool} {ok:Trip->Bool} (x:Trip):∀ (l:List Trip) (a:Option Trip),zvv lt ok (l++[x]) a=if (ok x&&zkb lt x (zvv lt ok l a))=true then some x else zvv lt ok l a
 | [],a=>rfl
 | y::l,a=>by
  show zvv lt ok (l++[x]) (if ok y&&zkb lt y a then some y else a)=_;rw [zny x l];rfl
theorem zsL {lt:Trip->Trip->Bool} {ok:Trip->Bool} {A:List Trip}:∀ i,i<=A.length->(zpA lt ok A i).map (λj=>A.getD j E0)=zvv lt ok (A.take i) none
 | 0,_=>rfl
 | i+1,hi=>by
  have ih:=zsL (lt:=lt) (ok:=ok) (A:=A) i (by omega);have hil:i<A.length:=by omega
  have e:A.take (i+1)=A.take i++[A.getD i E0]:=by
   rw [List.take_add_one];simp [List.getD,hil]
  rw [e,zny,← ih,zkd];cases (ok (A.getD i E0)&&zkb lt (A.getD i E0) ((zpA lt ok A i).map λj=>A.getD j E0))<;>rfl
theorem zow {lt:Trip->Trip->Bool} {ok:Trip->Bool} {A:List Trip}:∀ i j,zpA lt ok A i=some j->j<i
 | 0,j,h=>by cases h
 | i+1,j,h=>by
  rw [zkd] at h;split at h
  . cases h; omega
  . have:=zow i j h; omega
def atI:Option Nat->Int
 | none=>-1
 | some j=>(j:Int)
def okT (out:List Trip) (x:Trip):Bool:=decide (out.length=0)||zkj (out.getD (out.length-1) E0) x
theorem zuS {A out:List Trip} (hA:A.length<=1000000) (ho:out.length<=1000000):iter (σ:=(Int×Int)) (τ:=(Int)) (λs281=>
cond (decide (s281.2<(zr A))) (cond ((zr out)==0) (cond (decide (s281.1<0)) (some (.inl (s281.2,(w64 (s281.2+1))))) (Zb (idx A s281.2) λx303=>
Zb (idx A s281.1) λx304=>
Zb (zal x303 x304) λy305=>
cond (y305) (some (.inl (s281.2,(w64 (s281.2+1))))) (some (.inl (s281.1,(w64 (s281.2+1))))))) (Zb (idx out (w64 ((zr out)-1))) λx307=>
Zb (idx A s281.2) λx308=>
Zb (zal x307 x308) λy309=>
cond (y309) (cond (decide (s281.1<0)) (some (.inl (s281.2,(w64 (s281.2+1))))) (Zb (idx A s281.2) λx323=>
Zb (idx A s281.1) λx324=>
Zb (zal x323 x324) λy325=>
cond (y325) (some (.inl (s281.2,(w64 (s281.2+1))))) (some (.inl (s281.1,(w64 (s281.2+1))))))) (some (.inl (s281.1,(w64 (s281.2+1))))))) (some (.inr s281.1))) big ((-1),0)=some (atI (zpA zkj (okT out) A A.length)):=by
  have key:∀ k i:Nat,i+k=A.length->Lp (λs281:Int×Int=>
cond (decide (s281.2<(zr A))) (cond ((zr out)==0) (cond (decide (s281.1<0)) (some (.inl (s281.2,(w64 (s281.2+1))))) (Zb (idx A s281.2) λx303=>
Zb (idx A s281.1) λx304=>
Zb (zal x303 x304) λy305=>
cond (y305) (some (.inl (s281.2,(w64 (s281.2+1))))) (some (.inl (s281.1,(w64 (s281.2+1))))))) (Zb (idx out (w64 ((zr out)-1))) λx307=>
Zb (idx A s281.2) λx308=>
Zb (zal x307 x308) λy309=>
cond (y309) (cond (decide (s281.1<0)) (some (.inl (s281.2,(w64 (s281.2+1))))) (Zb (idx A s281.2) λx323=>
Zb (idx A s281.1) λx324=>
Zb (zal x323 x324) λy325=>
cond (y325) (some (.inl (s281.2,(w64 (s281.2+1))))) (some (.inl (s281.1,(w64 (s281.2+1))))))) (some (.inl (s281.1,(w64 (s281.2+1))))))) (some (.inr s281.1))) k (atI (zpA zkj (okT out) A i),(i:Int)) (atI (zpA zkj (okT out) A A.length)):=by
    intro k;induction k with
    | zero=>
      intro i hi;have:i=A.length:=by omega
      subst this;refine Lp.done ?_;simp only [zS,cond_false]
    | succ k ih=>
      intro i hi;have hil:i<A.length:=by omega
      refine Lp.step ?_ (ih (i+1) (by omega));have a1:idx A (i:Int)=some (A.getD i E0):=zt E0 hil;rw [zkd];have hsl:=λj=>zow (lt:=zkj) (ok:=okT out) (A:=A) i j;simp only [zR hil,cond_true,a1,Zs,zsI,zB (show i<9223372036854775807 by omega)];clear ih;generalize zpA zkj (okT out) A i=S at hsl ⊢;unfold okT;by_cases h0:out.length=0
      · have e0:(zr out==0)=true:=by rw [zu,h0]; rfl
        rw [e0,cond_true,decide_eq_true h0,Bool.true_or,Bool.true_and];cases S with
        | none=>rfl
        | some j=>
          have hj:=hsl j rfl;have a2:idx A (j:Int)=some (A.getD j E0):=zt E0 (by omega);show cond (decide ((j:Int)<0)) _ (Zb (idx A (j:Int)) _)=some (Sum.inl (atI (if zkj (A.getD i E0) (A.getD j E0)=true then some i else some j),_));rw [decide_eq_false (by omega),cond_false,a2,Zs];cases zkj (A.getD i E0) (A.getD j E0)<;>rfl
      · have e0:(zr out==0)=false:=by rw [zu]; simp only [beq_eq_false_iff_ne,ne_eq]; omega
        have a3:idx out (w64 (zr out-1))=some (out.getD (out.length-1) E0):=by
          rw [zu,ze (by omega) (by omega),show (out.length:Int)-1=((out.length-1:Nat):Int) by omega];exact zt E0 (by omega)
        rw [e0,cond_false,decide_eq_false h0,Bool.false_or,a3,Zs];cases zkj (out.getD (out.length-1) E0) (A.getD i E0) with
        | false=>
          rw [Bool.false_and];rfl
        | true=>
          rw [Bool.true_and,cond_true];cases S with
          | none=>rfl
          | some j=>
            have hj:=hsl j rfl;have a2:idx A (j:Int)=some (A.getD j E0):=zt E0 (by omega);show cond (decide ((j:Int)<0)) _ (Zb (idx A (j:Int)) _)=some (Sum.inl (atI (if zkj (A.getD i E0) (A.getD j E0)=true then some i else some j),_));rw [decide_eq_false (by omega),cond_false,a2,Zs];cases zkj (A.getD i E0) (A.getD j E0)<;>rfl
  exact (key A.length 0 (by omega)).big (by simp only [big]; omega)
theorem zxs {M:List Trip} {R:Trip->Trip->Prop} (h:M.Pairwise R) {i j:Nat} (hij:i<j) (hj:j<M.length):R (M.getD i E0) (M.getD j E0):=by
 have:=List.pairwise_iff_getElem.1 h i j (by omega) hj hij;rwa [show M.getD i E0=M[i]'(by omega) by simp [List.getD,show i<M.length by omega],show M.getD j E0=M[j] by simp [List.getD,hj]]
theorem zuT {A M:List Trip} (hm:∀ x,x∈M↔x∈A) (hp:M.Pairwise λa b=>ziV a<ziV b\/(ziV a=ziV b/\zyT a b)) {k:Nat} (hk:k<M.length):∃ j,zpA zkj (okT (M.take k)) A A.length=some j/\j<A.length/\A.getD j E0=M.getD k E0:=by
  have hkm:M.getD k E0∈M:=by
    rw [show M.getD k E0=M[k] by simp [List.getD,hk]];exact List.getElem_mem hk
  have htl:(M.take k).length=k:=by rw [List.length_take]; omega
  have hlast:∀ q,k=q+1->(M.take k).getD ((M.take k).length-1) E0=M.getD q E0:=λq hq=>by
    rw [htl,hq];have:q<(M.take (q+1)).length:=by rw [List.length_take]; omega
    simp [List.getD]
  have hs:=zgP (lt:=zkj) (ok:=okT (M.take k)) (m:=M.getD k E0) (l:=A) (a:=none) (by
      unfold okT;rw [htl];cases k with
      | zero=>rfl
      | succ q=>
        have h1:=(zsJ (zxs hp (i:=q) (j:=q+1) (by omega) hk)).1;have h2:=hlast q rfl;rw [htl] at h2;rw [h2,h1,Bool.or_true]) (zsK _) (.inl ((hm _).1 hkm)) (λx hx hok=>by
      obtain ⟨j,hj,rfl⟩:=List.getElem_of_mem ((hm x).2 hx);rw [show M[j]=M.getD j E0 by simp [List.getD,hj]] at hok ⊢;by_cases e:j=k
      · subst e; exact .inl rfl
      · right;by_cases hjk:k<j
        · exact zsJ (zxs hp hjk hj)
        · exfalso;unfold okT at hok;rw [htl] at hok;obtain ⟨q,hq⟩:∃ q,k=q+1:=⟨k-1,by omega⟩;have h2:=hlast q hq;rw [htl] at h2;rw [decide_eq_false (by omega),Bool.false_or,h2] at hok;by_cases e2:j=q
          · subst e2; rw [zsK] at hok; cases hok
          · rw [(zsJ (zxs hp (i:=j) (j:=q) (by omega) (by omega))).2] at hok; cases hok) (λy hy=>by cases hy)
  have h3:=zsL (lt:=zkj) (ok:=okT (M.take k)) (A:=A) A.length (Nat.le_refl _);rw [List.take_length,hs] at h3;cases hS:zpA zkj (okT (M.take k)) A A.length with
  | none=>rw [hS] at h3; cases h3
  | some j=>
    rw [hS] at h3;exact ⟨j,rfl,zow _ _ hS,by simpa using h3⟩
theorem znz (a:List Trip) (hl:a.length<=1000000):zcF a a=some true:=by
  unfold zcF;rw [show (zr a !=zr a)=false from bne_self_eq_false _,cond_false];have h:=zdf (f:=λs8:Int=>
cond (decide (s8<(zr a))) (Zb (idx a s8) λx13=>
Zb (idx a s8) λx14=>
cond (x13 !=x14) (some (.inr (.inr false))) (some (.inl (w64 (s8+1))))) (some (.inr (.inl ():Unit⊕Bool)))) (λk=>(k:Int)) a.length (λ_=>true) (.inr false) (.inl ()) (s0:=0) rfl (by simp only [big]; omega) (λi hi=>by
      rw [zR hi,cond_true,zt E0 hi,Zs,Zs,bne_self_eq_false,cond_false,zB (by omega)];rfl) (by simp only [zS,cond_false])
  rw [h];simp;rfl
section
variable {p:Plan} {s:Service} (V:zsY p s) (H:zqk p s) {w:List Works} (hw:w.length<=9223372036854775807) {from_ until_:Int} (hf:0<=from_/\from_<=until_) (hu:until_<=200000)
include V H hw hf hu
theorem zsM {M:List Trip} (hl:(zov p s w from_ until_).length<=1000000) (hM:zfr ziV M) (hE:zcV ziV (zov p s w from_ until_) M):zee p s w from_ until_=some M:=by
  have hp:=zxo (lt2:=zyT) hM hE (zyV V H (w:=w) hf hu s.1.length (Nat.le_refl _)).1;have hm:∀ x,x∈M↔x∈zov p s w from_ until_:=λx=>hE.mem;have hlen:=hE.len;have hA:=zsH V H hw hf hu;unfold rsF at hA;unfold zee;rw [hA,Zs];generalize zov p s w from_ until_=A at *
  have key:∀ k i:Nat,i+k=M.length->Lp (λs233:List Trip=>
cond (decide ((zr s233)<(zr A))) (Zb (iter (σ:=(Int×Int)) (τ:=(Int)) (λs281=>
cond (decide (s281.2<(zr A))) (cond ((zr s233)==0) (cond (decide (s281.1<0)) (some (.inl (s281.2,(w64 (s281.2+1))))) (Zb (idx A s281.2) λx303=>
Zb (idx A s281.1) λx304=>
Zb (zal x303 x304) λy305=>
cond (y305) (some (.inl (s281.2,(w64 (s281.2+1))))) (some (.inl (s281.1,(w64 (s281.2+1))))))) (Zb (idx s233 (w64 ((zr s233)-1))) λx307=>
Zb (idx A s281.2) λx308=>
Zb (zal x307 x308) λy309=>
cond (y309) (cond (decide (s281.1<0)) (some (.inl (s281.2,(w64 (s281.2+1))))) (Zb (idx A s281.2) λx323=>
Zb (idx A s281.1) λx324=>
Zb (zal x323 x324) λy325=>
cond (y325) (some (.inl (s281.2,(w64 (s281.2+1))))) (some (.inl (s281.1,(w64 (s281.2+1))))))) (some (.inl (s281.1,(w64 (s281.2+1))))))) (some (.inr s281.1))) big ((-1),0)) λt328=>
Zb (idx A t328) λx330=>
Zb (zcY 32 s233 ([x330])) λx331=>
some (.inl x331)) (some (.inr s233))) k (M.take i) M:=by
    intro k;induction k with
    | zero=>
      intro i hi;have:i=M.length:=by omega
      subst this;refine Lp.done ?_;rw [List.take_length,decide_eq_false (by rw [zu,zu]; omega),cond_false]
    | succ k ih=>
      intro i hi;have hil:i<M.length:=by omega
      have htl:(M.take i).length=i:=by rw [List.length_take]; omega
      obtain ⟨j,h1,h2,h3⟩:=zuT (A:=A) hm hp hil;refine Lp.step ?_ (ih (i+1) (by omega));rw [decide_eq_true (show zr (M.take i)<zr A by rw [zu,zu,htl]; omega),cond_true,zuS (by omega) (by omega),Zs,h1];have a2:idx A (atI (some j))=some (M.getD i E0):=by rw [← h3]; exact zt E0 h2
      rw [a2,Zs,zaT (by rw [htl]; simp; omega),Zs];have e:M.take (i+1)=M.take i++[M.getD i E0]:=by
        rw [List.take_add_one];simp [List.getD,hil]
      rw [e]
  have hL:=(key M.length 0 (by omega)).big (by simp only [big]; omega);rw [List.take_zero] at hL;rw [hL]; rfl
end
theorem zsN (hk:zaS=some true) (p:Plan) (s:Service) (w:List Works) (from_ until_:Int) (hs:s.1.length<=9223372036854775807):zbX p s w from_ until_=some true:=by
  unfold zbX;obtain ⟨b,e,q⟩:=zxd p s hs;rw [e,Zs,hk];cases b with
  | false=>rfl
  | true=>
  have F:=q rfl;have H:=F.sv;have hn:=F.n;by_cases hw6:zr w>6
  · rw [decide_eq_true hw6]; rfl
  rw [decide_eq_false hw6];rw [zu] at hw6;have hw:w.length<=9223372036854775807:=by omega
  simp only [Bool.not_true,cond_false,Zs,zos H];obtain ⟨c16,g1,g2⟩:∃ c16,(cond (!zqb p s) (some true) (Zb (zdr p w) λy19=>
cond (!y19) (some true) (cond (decide (from_<0)) (some true) (cond (decide (from_>until_)) (some true) (some (decide (until_>200000)))))))=some c16/\(c16=false↔(zqb p s=true/\zsZ p w=true/\(0<=from_/\from_<=until_)/\until_<=200000)):=by
    cases hB:zqb p s with
    | false=>exact ⟨true,rfl,by simp⟩
    | true=>
    have V:=zxc hB;have hR:=zst (zcy V.v) w hw;rw [hR,Zs];cases hW:zsZ p w with
    | false=>exact ⟨true,rfl,by simp⟩
    | true=>
    have hz:∃ b,(some (decide (until_>200000)):Option Bool)=some b/\(b=false↔¬ until_>200000):=⟨_,rfl,by simp⟩;obtain ⟨b,h1,h2⟩:=zsv (A:=from_<0) (zsv (A:=from_>until_) hz);refine ⟨b,h1, ?_⟩;rw [h2];simp only [true_and];omega
  simp only [g1,Zs];cases c16 with
  | true=>
    have hno:¬ (zqb p s=true/\zsZ p w=true/\(0<=from_/\from_<=until_)/\until_<=200000):=λh=>by have:=g2.2 h; cases this
    have hT:zaY p s w from_ until_=some ([],2):=by
      unfold zaY;rw [zk8 H,Zs];cases hB:zqb p s with
      | false=>rfl
      | true=>
      have V:=zxc hB;simp only [if_true,Bool.not_true,cond_false,zla (zcy V.v) w hw,Zs,zgL];cases hW:zsZ p w with
      | false=>rfl
      | true=>
      cases h1:inB from_ 0 until_ with
      | false=>rfl
      | true=>
        have h1:=zau.1 h1;have h2:until_>200000:=by
          by_cases q:until_>200000
          · exact q
          · exact absurd ⟨hB,hW,h1,by omega⟩ hno
        rw [decide_eq_true h2];rfl
    rw [hT];rfl
  | false=>
    obtain ⟨hB,hW,hf,hu⟩:=g2.1 rfl;have V:=zxc hB;obtain ⟨M,m1,m2,m3⟩:=znw V H (w:=w) hf hu hW;rw [m1];simp only [Zs,cond_false];by_cases h3:w64 (until_-from_)>3000
    · rw [decide_eq_true h3]; rfl
    rw [ze (by omega) (by omega)] at h3;rw [ze (by omega) (by omega),decide_eq_false h3];have hlen:=zmf V H (w:=w) hf hu s.1.length (Nat.le_refl _);have hAl:(zov p s w from_ until_).length<=1000:=by
      have:(s.1.length:Int)*(until_-from_+30)<=3*3030:=Int.mul_le_mul (by omega) (by omega) (by omega) (by omega);unfold zov;omega
    have hl:=m3.len;rw [if_neg (by omega)];simp only [cond_false,show ((0:Int)==0)=true from rfl,cond_true,zsM V H hw hf hu (by omega) m2 m3,znz M (by omega),Zs]
end Go.Ai.Sx
/- Service: the examples of the chapter. -/
namespace Go.Ai.Sx
open Option renaming bind->Zb,bind_some->Zs
def sP (n:Int):Plan:=(([(((0,0,()),1,[((0,false,()):zm)],0,()):zcc),((((n,0,()):Spot),1,[((0,true,()):zm)],0,()):zcc)],[((0,1,[],8000,0,()):Rail)],()):Plan)
def sT:Train:=(1000,1000,8000,2000,2000,1000000,0,0,0,[1000],())
def sL (n:Int):Line:=(([((0,false,()):zL)],[1000,n/2,n],[0,20,0],()),([((0,true,()):zL)],[1000,n/2,n],[0,10,0],()),sT,0,30,())
theorem sl0:(zg9 (sP 21000) (sL 21000).1.1 sT 0 (sL 21000).1.2.1).map (·.map (·.1))=some [4400,4600]:=by kernel_rfl
theorem sl1:(zg9 (sP 21000) (sL 21000).2.1.1 sT 0 (sL 21000).2.1.2.1).map (·.map (·.1))=some [4400,4600]:=by kernel_rfl
theorem sv:zaN (sP 21000)=true:=by kernel_rfl
theorem ss0:zeO (sP 21000) (sL 21000).1.1 sT 0 (sL 21000).1.2.1=true:=by kernel_rfl
theorem ss1:zeO (sP 21000) (sL 21000).2.1.1 sT 0 (sL 21000).2.1.2.1=true:=by kernel_rfl
theorem sc0:zvp (sP 21000) (sL 21000).1=true:=by kernel_rfl
theorem sc1:zvp (sP 21000) (sL 21000).2.1=true:=by kernel_rfl
theorem sw0:wlS (sP 21000) (sL 21000).1.1=21000:=by kernel_rfl
theorem sw1:wlS (sP 21000) (sL 21000).2.1.1=21000:=by kernel_rfl
theorem sI:zpo (sP 21000) (sL 21000):=⟨by decide,by decide,by decide,by decide,λ_ _=>by rw [sw0]; omega,λ_ _=>by rw [sw1]; omega⟩
theorem lg0:zpm (sP 21000) (sL 21000) (sL 21000).1=some [4400,4600]:=by
 unfold zpm;rw [if_pos (show zeO (sP 21000) (sL 21000).1.1 (sL 21000).2.2.1 (sL 21000).2.2.2.1 (sL 21000).1.2.1=true from ss0)];exact sl0
theorem lg1:zpm (sP 21000) (sL 21000) (sL 21000).2.1=some [4400,4600]:=by
 unfold zpm;rw [if_pos (show zeO (sP 21000) (sL 21000).2.1.1 (sL 21000).2.2.1 (sL 21000).2.2.2.1 (sL 21000).2.1.2.1=true from ss1)];exact sl1
theorem sr0:zh6 (sP 21000) (sL 21000) (sL 21000).1=some [4400,4600]:=by unfold zh6; rw [if_pos sc0]; exact lg0
theorem sr1:zh6 (sP 21000) (sL 21000) (sL 21000).2.1=some [4400,4600]:=by unfold zh6; rw [if_pos sc1]; exact lg1
theorem sm0:msC (sP 21000) (sL 21000) (sL 21000).1=[4400,4600]:=by unfold msC; rw [sr0]; rfl
theorem sm1:msC (sP 21000) (sL 21000) (sL 21000).2.1=[4400,4600]:=by unfold msC; rw [sr1]; rfl
theorem zqc:zdO (sP 21000) (sL 21000)=true:=by
 unfold zdO okC;rw [sr0,sr1];kernel_rfl
theorem zAt:zct (sP 21000) (sL 21000) (sL 21000).1=30:=by unfold zct; rw [sm0]; kernel_rfl
theorem zAu:zct (sP 21000) (sL 21000) (sL 21000).2.1=20:=by unfold zct; rw [sm1]; kernel_rfl
theorem srd:zkh (sP 21000) (sL 21000)=110:=by unfold zkh; rw [zAt,zAu]; rfl
theorem znA:zcq 21000=some (sP 21000,sL 21000):=by kernel_rfl
theorem zsO {p:Plan} {l:Line} (hs:zcq 21000=some (p,l)) (hR:zbN p l.1.1 l.2.2.1 0 l.1.2.1=some ([4400,4600],0)) (hO:za1 p l false=some ([0,25,30],0)) (hX:za1 p l true=some ([0,15,20],0)) (hN:zcC p l=some (110,0)) (hC:zbF p l 110=some (1,0)) (hD:zbF p l 109=some (2,0)):zaS=some true:=by
 unfold zaS;rw [hs,Zs];simp only [hR,hO,hX,hN,Zs];rw [show w64 (110-1)=109 from rfl];simp only [hC,hD,Zs];rfl
theorem kR:zbN (sP 21000) (sL 21000).1.1 (sL 21000).2.2.1 0 (sL 21000).1.2.1=some ([4400,4600],0):=by
 obtain ⟨e,h1,_⟩:=zAs (sP 21000) (sL 21000) (sL 21000).1 sI.w1 (by decide) (by rw [sw0]; omega);rw [lg0] at h1;exact h1
theorem kB {p:Plan} {l:Line} (hv:zaN p=true) (hl:zdO p l=true):(zaN p&&zdO p l)=true:=by rw [hv,hl]; rfl
theorem ko:zhh (msC (sP 21000) (sL 21000) (sL 21000).1) (sL 21000).1=[0,25,30]:=by rw [sm0]; kernel_rfl
theorem kx:zhh (msC (sP 21000) (sL 21000) (sL 21000).2.1) (sL 21000).2.1=[0,15,20]:=by rw [sm1]; kernel_rfl
theorem kO {p:Plan} {l:Line} (H:zpo p l) (hv:zaN p=true) (hl:zdO p l=true) {home:Bool} {o:List Int} (h:zhh (msC p l (zcW l home)) (zcW l home)=o):za1 p l home=some (o,0):=by
 rw [zuL H,if_pos (kB hv hl),h]
theorem kC {p:Plan} {l:Line} (H:zpo p l) (hv:zaN p=true) (hl:zdO p l=true) {h c:Int} (hi:inB h 30 7200=true) (hc:(zkh p l+h-1)/h=c):zbF p l h=some (c,0):=by
 rw [zAb H,if_pos (by rw [kB hv hl,hi]; rfl)];unfold zh0;rw [hc]
theorem zvx:zaS=some true:=
 zsO znA kR (kO sI sv zqc ko) (kO sI sv zqc kx) (by rw [zyJ sI,if_pos (kB sv zqc),srd]) (kC sI sv zqc rfl (by rw [srd]; rfl)) (kC sI sv zqc rfl (by rw [srd]; rfl))
end Go.Ai.Sx