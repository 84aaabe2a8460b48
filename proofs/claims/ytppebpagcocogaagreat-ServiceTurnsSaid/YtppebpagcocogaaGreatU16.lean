/- Sorting: merging with one element alone; merging is right; sorting is right. -/
import Derived.Test.YtppebpagcocogaaGreatU15
import Derived.KernelRfl
set_option linter.unusedSimpArgs false
set_option linter.unusedVariables false
set_option linter.unusedSectionVars false
namespace Go.Ai.Sx
open Option renaming bind->Zb,bind_some->Zs
theorem zue (x:Trip) (T:List Trip) (e:Int):∀ (B1 P:List Trip),e=((P.length+B1.length:Nat):Int)->(P++x::B1++T).length<1000000000000 ->
    Lp ((λs28=>
cond (decide (s28.1<(e))) (Zb (idx s28.2 (w64 (s28.1+1))) λx31=>
Zb (idx s28.2 s28.1) λx32=>
Zb (idx s28.2 s28.1) λx33=>
Zb (idx ((s28.2).set (Int.toNat s28.1) x31) (w64 (s28.1+1))) λx34=>
some (.inl ((w64 (s28.1+1)),((s28.2).set (Int.toNat s28.1) x31).set (Int.toNat (w64 (s28.1+1))) x32))) (some (.inr s28.2))):(Int×List Trip)->Option ((Int×List Trip)⊕List Trip)) B1.length ((P.length:Int),P++x::B1++T) (P++B1++x::T):=by
  intro B1;induction B1 with
  | nil=>
    intro P he hl;refine Lp.done ?_;subst he;simp
  | cons y B1 ih=>
    intro P he hl;have hl2:=hl;simp only [List.length_append,List.length_cons] at hl2 he;have hr:=ih (P++[y]) (by rw [he]; simp; omega) (by simp only [List.length_append,List.length_cons,List.length_nil]; omega);have e9:P++[y]++B1++x::T=P++y::B1++x::T:=by simp
    rw [e9] at hr;refine Lp.step ?_ hr;have i0:∀ z,idx (P++z::(y::B1)++T) (P.length:Int)=some z:=λz=>by
      rw [show P++z::(y::B1)++T=P++z::(y::B1++T) by simp]; exact zgd _ _ _
    have i1:∀ z,idx (P++z::(y::B1)++T) ((P.length+1:Nat):Int)=some y:=λz=>by
      rw [show P++z::(y::B1)++T=(P++[z])++y::(B1++T) by simp,show P.length+1=(P++[z]).length by simp]; exact zgd _ _ _
    have s1:(P++x::(y::B1)++T).set P.length y=P++y::(y::B1)++T:=by
      rw [show P++x::(y::B1)++T=P++x::(y::B1++T) by simp,zgE]; simp
    have s2:(P++y::(y::B1)++T).set (P.length+1) x=P++[y]++x::B1++T:=by
      rw [show P++y::(y::B1)++T=(P++[y])++y::(B1++T) by simp,show P.length+1=(P++[y]).length by simp,zgE]; simp
    simp only [decide_eq_true (show (P.length:Int)<e by omega),cond_true,zx (show P.length<9223372036854775807 by omega),i1,i0,Zs,Int.toNat_natCast,s1,s2];simp
theorem zwO (y:Trip) (T P:List Trip):∀ (n:Nat) (A2:List Trip) (T:List Trip),A2.length=n->(P++A2++y::T).length<1000000000000 ->
    Lp ((λs64=>
cond (decide (s64.1>(P.length:Int))) (Zb (idx s64.2 (w64 (s64.1-1))) λx67=>
Zb (idx s64.2 s64.1) λx68=>
Zb (idx s64.2 s64.1) λx69=>
Zb (idx ((s64.2).set (Int.toNat s64.1) x67) (w64 (s64.1-1))) λx70=>
some (.inl ((w64 (s64.1-1)),((s64.2).set (Int.toNat s64.1) x67).set (Int.toNat (w64 (s64.1-1))) x68))) (some (.inr s64.2))):(Int×List Trip)->Option ((Int×List Trip)⊕List Trip)) n (((P.length+A2.length:Nat):Int),P++A2++y::T) (P++y::A2++T):=by
  intro n;induction n with
  | zero=>
    intro A2 T hn hl;have:A2=[]:=List.length_eq_zero_iff.1 hn;subst this;refine Lp.done ?_;simp
  | succ n ih=>
    intro A2 T hn hl;obtain ⟨L0,z,rfl⟩:∃ L0 z,A2=L0++[z]:=by
      cases h:A2.reverse with
      | nil=>rw [List.reverse_eq_nil_iff] at h; subst h; simp at hn
      | cons z l=>exact ⟨l.reverse,z,by rw [← List.reverse_reverse A2,h]; simp⟩
    have hL0:L0.length=n:=by simpa using hn
    have hl2:=hl;simp only [List.length_append,List.length_cons,List.length_nil] at hl2;have hr:=ih L0 (z::T) hL0 (by simp only [List.length_append,List.length_cons]; omega);have e9:P++y::L0++z::T=P++y::(L0++[z])++T:=by simp
    rw [e9] at hr;refine Lp.step ?_ hr;have em:w64 (((P.length+(L0++[z]).length:Nat):Int)-1)=((P.length+L0.length:Nat):Int):=by
      simp only [List.length_append,List.length_cons,List.length_nil];rw [ze (by omega) (by omega)]; omega
    have i1:idx (P++(L0++[z])++y::T) ((P.length+(L0++[z]).length:Nat):Int)=some y:=by
      rw [show P.length+(L0++[z]).length=(P++(L0++[z])).length by simp]; exact zgd _ _ _
    have i2:∀ u,idx (P++(L0++[z])++u::T) ((P.length+L0.length:Nat):Int)=some z:=λu=>by
      rw [show P++(L0++[z])++u::T=(P++L0)++z::(u::T) by simp,show P.length+L0.length=(P++L0).length by simp]; exact zgd _ _ _
    have s1:(P++(L0++[z])++y::T).set (P.length+(L0++[z]).length) z=P++(L0++[z])++z::T:=by
      rw [show P.length+(L0++[z]).length=(P++(L0++[z])).length by simp,zgE]
    have s2:(P++(L0++[z])++z::T).set (P.length+L0.length) y=P++L0++y::(z::T):=by
      rw [show P++(L0++[z])++z::T=(P++L0)++z::(z::T) by simp,show P.length+L0.length=(P++L0).length by simp,zgE]
    simp only [decide_eq_true (show ((P.length+(L0++[z]).length:Nat):Int)>(P.length:Int) by simp only [List.length_append,List.length_cons,List.length_nil]; omega),cond_true,em,i1,i2,Zs,Int.toNat_natCast,s1,s2]
section
variable {cmp:(Trip×Trip)->Option Int} {key:Trip->Int} (hc:∀ x y,∃ v,cmp (x,y)=some v/\(v<0↔key x<key y))
include hc
theorem zwP {rec:(List Trip)->Int->Int->Int->((Trip×Trip)->Option (Int))->Option (List Trip)} {P B S:List Trip} {x:Trip} (hB:zfl key B) (hl:(P++[x]++B++S).length<1000000000000) :
    ∃ M,zm rec (P++[x]++B++S) P.length ((P.length+[x].length:Nat):Int) ((P.length+[x].length+B.length:Nat):Int) cmp=some (P++M++S)/\zfl key M/\zcL key ([x]++B) M:=by
  have hl2:=hl;simp only [List.length_append,List.length_cons,List.length_nil] at hl2;have w1:(w64 (((P.length+[x].length:Nat):Int)-(P.length:Int))==1)=true:=by
    rw [List.length_singleton,ze (by omega) (by omega)]; simp; omega
  unfold zm;rw [w1,cond_true];have ix:idx (P++[x]++B++S) (P.length:Int)=some x:=by
    have:=zud (P:=P) (A:=[x]) (B:=B) (S:=S) (i:=0) (by simp);simpa using this
  obtain ⟨r,h1,h2,h3,h4,h5⟩:=zl0 (F:=(λs8=>
cond (decide (s8.1<s8.2)) (Zb (ziH .u64 (IntKind.u64.wrap (w64 (s8.1+s8.2))) 1) λx11=>
Zb (idx (P++[x]++B++S) (w64 x11)) λx12=>
Zb (idx (P++[x]++B++S) (P.length:Int)) λx13=>
Zb (cmp (x12,x13)) λy14=>
cond (decide (y14<0)) (some (.inl ((w64 ((w64 x11)+1)),s8.2))) (some (.inl (s8.1,(w64 x11))))) (some (.inr s8.1)))) (q:=λc=>decide (key (B.getD (c-(P.length+1)) E0)<key x)) (lo:=P.length+[x].length) (hi:=P.length+[x].length+B.length) (by omega) (by rw [List.length_singleton]; omega) (λi j hi1 hij hj=>by
      rw [List.length_singleton] at hi1 hj;obtain ⟨e1,e2⟩:=zjc (a:=i) (b:=j) (by omega);simp only [];rw [decide_eq_true (by omega),cond_true,e1,Zs,e2];have e4:(((i+j)/2:Nat):Int)=((P.length+[x].length+((i+j)/2-(P.length+1)):Nat):Int):=by rw [List.length_singleton]; omega
      rw [e4,zwM (by omega),Zs,ix,Zs,zj8 hc _ _ (λb=>cond b _ _),← e4];rw [zx (by omega)];cases decide (key (B.getD ((i+j)/2-(P.length+1)) E0)<key x)<;>rfl)
    (λi=>by simp only [decide_eq_false (show ¬ (i:Int)<i by omega),cond_false])
  rw [h1,Zs];rw [List.length_singleton] at h2 h3 h4 h5;have eB:B.take (r-(P.length+1))++B.drop (r-(P.length+1))=B:=List.take_append_drop _ _;have lB:(B.take (r-(P.length+1))).length=r-(P.length+1):=by rw [List.length_take]; omega
  have hlt:∀ b∈B.take (r-(P.length+1)),key b<key x:=λb hb=>by
    obtain ⟨j,j1,j2,rfl⟩:=zo2 hb;rcases h4 with h | h
    · omega
    · have a1:=zgF hB (i:=j) (j:=r-1-(P.length+1)) (by omega) (by omega);have:=of_decide_eq_true h;omega
  have hge:∀ b∈B.drop (r-(P.length+1)),key x<=key b:=λb hb=>by
    obtain ⟨j,j1,j2,rfl⟩:=zo3 hb;rcases h5 with h | h
    · omega
    · have a1:=zgF hB (i:=r-(P.length+1)) (j:=j) j1 j2;have:=of_decide_eq_false h;omega
  have hmv:=zue x (B.drop (r-(P.length+1))++S) (w64 ((r:Int)-1)) (B.take (r-(P.length+1))) P (by rw [lB,ze (by omega) (by omega)]; omega) (by
    have e:P++x::B.take (r-(P.length+1))++(B.drop (r-(P.length+1))++S)=P++[x]++(B.take (r-(P.length+1))++B.drop (r-(P.length+1)))++S:=by simp; rw [← List.append_assoc,eB]
    rw [e,eB]; exact hl)
  have eD:P++x::B.take (r-(P.length+1))++(B.drop (r-(P.length+1))++S)=P++[x]++B++S:=by
    have e:P++x::B.take (r-(P.length+1))++(B.drop (r-(P.length+1))++S)=P++[x]++(B.take (r-(P.length+1))++B.drop (r-(P.length+1)))++S:=by simp; rw [← List.append_assoc,eB]
    rw [e,eB]
  rw [eD] at hmv;have hB1:=hmv.big (by rw [lB]; simp only [big]; omega);have hsB:=hB;rw [← eB] at hsB;obtain ⟨b1,b2,b3⟩:=zge.1 hsB;refine ⟨B.take (r-(P.length+1))++x::B.drop (r-(P.length+1)), ?_, ?_, ?_⟩
  · refine (congrArg (λo=>Zb o λt35=>some t35) hB1).trans ?_;rw [Zs]; simp
  · refine zge.2 ⟨b1,List.pairwise_cons.2 ⟨λb hb=>hge b hb,b2⟩,λa ha b hb=>?_⟩;rcases List.mem_cons.1 hb with rfl | hb
    · have:=hlt a ha; omega
    · exact b3 a ha b hb
  · have e1:[x]++B=([x]++B.take (r-(P.length+1)))++B.drop (r-(P.length+1)):=by rw [List.append_assoc,eB]
    have e2:B.take (r-(P.length+1))++x::B.drop (r-(P.length+1))=(B.take (r-(P.length+1))++[x])++B.drop (r-(P.length+1)):=by simp
    rw [e1,e2];refine (zcL.swap λu hu v hv=>?_).append (zcL.refl _);rw [List.mem_singleton] at hu;subst hu;exact hlt v hv
theorem zuf {rec:(List Trip)->Int->Int->Int->((Trip×Trip)->Option (Int))->Option (List Trip)} {P A S:List Trip} {y:Trip} (hA:zfl key A) (la:A.length≠1) (hl:(P++A++[y]++S).length<1000000000000) :
    ∃ M,zm rec (P++A++[y]++S) P.length ((P.length+A.length:Nat):Int) ((P.length+A.length+[y].length:Nat):Int) cmp=some (P++M++S)/\zfl key M/\zcL key (A++[y]) M:=by
  have hl2:=hl;simp only [List.length_append,List.length_cons,List.length_nil] at hl2;have w1:(w64 (((P.length+A.length:Nat):Int)-(P.length:Int))==1)=false:=by
    rw [ze (by omega) (by omega)]; simp; omega
  have w2:(w64 (((P.length+A.length+[y].length:Nat):Int)-((P.length+A.length:Nat):Int))==1)=true:=by
    rw [List.length_singleton,ze (by omega) (by omega)]; simp; omega
  unfold zm;rw [w1,w2,cond_false,cond_true];have iy:idx (P++A++[y]++S) ((P.length+A.length:Nat):Int)=some y:=by
    have:=zwM (P:=P) (A:=A) (B:=[y]) (S:=S) (i:=0) (by simp);simpa using this
  obtain ⟨r,h1,h2,h3,h4,h5⟩:=zl0 (F:=(λs44=>
cond (decide (s44.1<s44.2)) (Zb (ziH .u64 (IntKind.u64.wrap (w64 (s44.1+s44.2))) 1) λx47=>
Zb (idx (P++A++[y]++S) ((P.length+A.length:Nat):Int)) λx48=>
Zb (idx (P++A++[y]++S) (w64 x47)) λx49=>
Zb (cmp (x48,x49)) λy50=>
cond (!(decide (y50<0))) (some (.inl ((w64 ((w64 x47)+1)),s44.2))) (some (.inl (s44.1,(w64 x47))))) (some (.inr s44.1)))) (q:=λc=>!decide (key y<key (A.getD (c-P.length) E0))) (lo:=P.length) (hi:=P.length+A.length) (by omega) (by omega) (λi j hi1 hij hj=>by
      obtain ⟨e1,e2⟩:=zjc (a:=i) (b:=j) (by omega);simp only [];rw [decide_eq_true (by omega),cond_true,e1,Zs,e2,iy,Zs];have e4:(((i+j)/2:Nat):Int)=((P.length+((i+j)/2-P.length):Nat):Int):=by omega
      rw [e4,zud (by omega),Zs,zj8 hc _ _ (λb=>cond (!b) _ _),← e4];rw [zx (by omega)];cases decide (key y<key (A.getD ((i+j)/2-P.length) E0))<;>rfl)
    (λi=>by simp only [decide_eq_false (show ¬ (i:Int)<i by omega),cond_false])
  rw [h1,Zs];have eA:A.take (r-P.length)++A.drop (r-P.length)=A:=List.take_append_drop _ _;have lA:(A.take (r-P.length)).length=r-P.length:=by rw [List.length_take]; omega
  have lA2:(A.drop (r-P.length)).length=A.length-(r-P.length):=List.length_drop;have hle:∀ a∈A.take (r-P.length),key a<=key y:=λa ha=>by
    obtain ⟨j,j1,j2,rfl⟩:=zo2 ha;rcases h4 with h | h
    · omega
    · have a1:=zgF hA (i:=j) (j:=r-1-P.length) (by omega) (by omega);simp only [Bool.not_eq_true',decide_eq_false_iff_not] at h;omega
  have hgt:∀ a∈A.drop (r-P.length),key y<key a:=λa ha=>by
    obtain ⟨j,j1,j2,rfl⟩:=zo3 ha;rcases h5 with h | h
    · omega
    · have a1:=zgF hA (i:=r-P.length) (j:=j) j1 j2;simp only [Bool.not_eq_false',decide_eq_true_eq] at h;omega
  have eD:(P++A.take (r-P.length))++A.drop (r-P.length)++y::S=P++A++[y]++S:=by
    rw [List.append_assoc P,eA]; simp
  have hmv:=zwO y S (P++A.take (r-P.length)) _ (A.drop (r-P.length)) S rfl (by rw [eD]; exact hl);rw [eD] at hmv;have eP:(P++A.take (r-P.length)).length=r:=by rw [List.length_append,lA]; omega
  rw [eP,lA2,show r+(A.length-(r-P.length))=P.length+A.length by omega] at hmv;have hB1:=hmv.big (by simp only [big]; omega);have hsA:=hA;rw [← eA] at hsA;obtain ⟨b1,b2,b3⟩:=zge.1 hsA;refine ⟨A.take (r-P.length)++y::A.drop (r-P.length), ?_, ?_, ?_⟩
  · refine (congrArg (λo=>Zb o λt71=>some t71) hB1).trans ?_;rw [Zs]; simp
  · refine zge.2 ⟨b1,List.pairwise_cons.2 ⟨λb hb=>by have:=hgt b hb; omega,b2⟩,λa ha b hb=>?_⟩;rcases List.mem_cons.1 hb with rfl | hb
    · exact hle a ha
    · exact b3 a ha b hb
  · have e1:A++[y]=A.take (r-P.length)++(A.drop (r-P.length)++[y]):=by rw [← List.append_assoc,eA]
    have e2:A.take (r-P.length)++y::A.drop (r-P.length)=A.take (r-P.length)++([y]++A.drop (r-P.length)):=by simp
    rw [e1,e2];refine (zcL.refl _).append (zcL.swap λu hu v hv=>?_);rw [List.mem_singleton] at hv;subst hv;exact hgt u hu
theorem zr3:∀ (k n:Nat),n<=k->zr1 key cmp n (zp k)
 | 0,n,hn=>λA B P S hA hB h _ _ _=>by
  have:=List.length_pos_iff.2 hA;omega
 | k+1,n,hn=>λA B P S hA hB h sA sB hl=>by
  have la:=List.length_pos_iff.2 hA;have lb:=List.length_pos_iff.2 hB;show ∃ M,zm (zp k) (P++A++B++S) P.length ((P.length+A.length:Nat):Int) ((P.length+A.length+B.length:Nat):Int) cmp=some (P++M++S)/\_;by_cases h1:A.length=1
  . obtain ⟨x,rfl⟩:=List.length_eq_one_iff.1 h1;exact zwP hc sB hl
  . by_cases h2:B.length=1
    . obtain ⟨y,rfl⟩:=List.length_eq_one_iff.1 h2;exact zuf hc sA h1 hl
    . exact zwN hc (zr3 k (n-1) (by omega)) sA sB hl (by omega) (by omega) (by omega)
end
end Go.Ai.Sx
/- Sorting: slices.SortStableFunc sorts,and equal ones stay in their order. -/
namespace Go.Ai.Sx
open Option renaming bind->Zb,bind_some->Zs
def zw6 (n_:Int) (cmp:(Trip×Trip)->Option Int):(Int×Int×List Trip)->Option ((Int×Int×List Trip)⊕(Int×List Trip)):=(λs7=>
cond (decide (s7.2.1<=n_)) (Zb (zD s7.2.2 s7.1 s7.2.1 cmp) λy10=>
some (.inl (s7.2.1,(w64 (s7.2.1+20)),y10))) (some (.inr (s7.1,s7.2.2))))
def zyo (n_:Int) (cmp:(Trip×Trip)->Option Int) (w_:Int):(Int×Int×List Trip)->Option ((Int×Int×List Trip)⊕(Int×List Trip)):=(λs59=>
cond (decide (s59.2.1<=n_)) (Zb (zp big s59.2.2 s59.1 (w64 (s59.1+w_)) s59.2.1 cmp) λy62=>
some (.inl (s59.2.1,(w64 (s59.2.1+(w64 (2*w_)))),y62))) (some (.inr (s59.1,s59.2.2))))
def zw7 (n_:Int) (cmp:(Trip×Trip)->Option Int):(Int×List Trip)->Option ((Int×List Trip)⊕List Trip):=(λs50=>
cond (decide (s50.1<n_)) (Zb (iter (σ:=(Int×Int×(List Trip))) (τ:=(Int×(List Trip))) (λs59=>
cond (decide (s59.2.1<=n_)) (Zb (zp big s59.2.2 s59.1 (w64 (s59.1+s50.1)) s59.2.1 cmp) λy62=>
some (.inl (s59.2.1,(w64 (s59.2.1+(w64 (2*s50.1)))),y62))) (some (.inr (s59.1,s59.2.2)))) big (0,(w64 (2*s50.1)),s50.2)) λt64=>
cond (decide ((w64 (t64.1+s50.1))<n_)) (Zb (zp big t64.2 t64.1 (w64 (t64.1+s50.1)) n_ cmp) λy67=>
some (.inl ((w64 (s50.1*2)),y67))) (some (.inl ((w64 (s50.1*2)),t64.2)))) (some (.inr s50.2)))
def zkl (key:Trip->Int) (s:Nat) (Bs:List (List Trip)):Prop:=∀ b∈Bs,b.length=s/\zfl key b
theorem zkl.len {key:Trip->Int} {s:Nat}:∀ {Bs:List (List Trip)},zkl key s Bs->Bs.flatten.length=s*Bs.length
 | [],_=>by simp
 | b::Bs,h=>by
  have h1:=(h b (by simp)).1;have h2:=zkl.len (Bs:=Bs) λc hc=>h c (by simp [hc]);rw [List.flatten_cons,List.length_append,h1,h2,List.length_cons,Nat.mul_add]; omega
theorem zkl.snoc {key:Trip->Int} {s:Nat} {Bs:List (List Trip)} {M:List Trip} (h:zkl key s Bs) (h1:M.length=s) (h2:zfl key M):zkl key s (Bs++[M]):=λb hb=>by
 rcases List.mem_append.1 hb with hb | hb
 . exact h b hb
 . rw [List.mem_singleton] at hb; subst hb; exact ⟨h1,h2⟩
section
variable {cmp:(Trip×Trip)->Option Int} {key:Trip->Int} (hc:∀ x y,∃ v,cmp (x,y)=some v/\(v<0↔key x<key y))
include hc
theorem zr4 (N:Nat) (hN:N<100000000000):∀ (m:Nat) (Bs:List (List Trip)) (R:List Trip),R.length<=m->zkl key 20 Bs->(Bs.flatten++R).length=N ->
    ∃ (Cs:List (List Trip)) (Q:List Trip),Lp (zw6 N cmp) m ((Bs.flatten.length:Int),((Bs.flatten.length+20:Nat):Int),Bs.flatten++R) ((Cs.flatten.length:Int),Cs.flatten++Q)/\zkl key 20 Cs/\Q.length<20/\zcL key (Bs.flatten++R) (Cs.flatten++Q):=by
  have stop:∀ (m:Nat) (Bs:List (List Trip)) (R:List Trip),R.length<20->zkl key 20 Bs->(Bs.flatten++R).length=N->∃ (Cs:List (List Trip)) (Q:List Trip),Lp (zw6 N cmp) m ((Bs.flatten.length:Int),((Bs.flatten.length+20:Nat):Int),Bs.flatten++R) ((Cs.flatten.length:Int),Cs.flatten++Q)/\zkl key 20 Cs/\Q.length<20/\zcL key (Bs.flatten++R) (Cs.flatten++Q):=by
    intro m Bs R hR hB hn;rw [List.length_append] at hn;refine ⟨Bs,R,Lp.done ?_,hB,hR,zcL.refl _⟩;unfold zw6;simp only [decide_eq_false (show ¬ ((Bs.flatten.length+20:Nat):Int)<=(N:Int) by omega),cond_false]
  intro m;induction m with
  | zero=>intro Bs R h hB hn; exact stop 0 Bs R (by omega) hB hn
  | succ m ih=>
    intro Bs R h hB hn;by_cases hR:R.length<20
    · exact stop _ Bs R hR hB hn
    · have hn2:=hn;rw [List.length_append] at hn2;have eR:R.take 20++R.drop 20=R:=List.take_append_drop _ _;have l1:(R.take 20).length=20:=by rw [List.length_take]; omega
      have l2:(R.drop 20).length=R.length-20:=List.length_drop;have eD:Bs.flatten++R.take 20++R.drop 20=Bs.flatten++R:=by rw [List.append_assoc,eR]
      obtain ⟨M,h1,h2,h3⟩:=zuM hc Bs.flatten (R.take 20) (R.drop 20) (by rw [eD]; omega);have lM:M.length=20:=by rw [h3.len,l1]
      have eF:(Bs++[M]).flatten=Bs.flatten++M:=by simp
      have lF:(Bs++[M]).flatten.length=Bs.flatten.length+20:=by rw [eF,List.length_append,lM]
      obtain ⟨Cs,Q,h4,h5,h6,h7⟩:=ih (Bs++[M]) (R.drop 20) (by omega) (hB.snoc lM h2) (by rw [List.length_append,lF,l2]; omega);rw [eD,l1] at h1;refine ⟨Cs,Q,Lp.step ?_ h4,h5,h6, ?_⟩
      · unfold zw6;simp only [decide_eq_true (show ((Bs.flatten.length+20:Nat):Int)<=(N:Int) by omega),cond_true,h1,Zs];rw [lF,eF,ze (by omega) (by omega)];rfl
      · refine zcL.trans ?_ h7;rw [← eD,eF];exact ((zcL.refl _).append h3).append (zcL.refl _)
theorem zr5 (N s:Nat) (hN:N<100000000000) (hs:0<s/\s<N):∀ (m:Nat) (Cs Bs:List (List Trip)) (R:List Trip),Bs.length<=m->zkl key (2*s) Cs->zkl key s Bs->R.length<s->(Cs.flatten++Bs.flatten++R).length=N ->
    ∃ (Es As:List (List Trip)),Lp (zyo N cmp s) m ((Cs.flatten.length:Int),((Cs.flatten.length+2*s:Nat):Int),Cs.flatten++Bs.flatten++R) ((Es.flatten.length:Int),Es.flatten++As.flatten++R)/\zkl key (2*s) Es/\zkl key s As/\As.length<=1/\zcL key (Cs.flatten++Bs.flatten++R) (Es.flatten++As.flatten++R):=by
  have stop:∀ (m:Nat) (Cs Bs:List (List Trip)) (R:List Trip),Bs.length<=1->zkl key (2*s) Cs->zkl key s Bs->R.length<s->(Cs.flatten++Bs.flatten++R).length=N->∃ (Es As:List (List Trip)),Lp (zyo N cmp s) m ((Cs.flatten.length:Int),((Cs.flatten.length+2*s:Nat):Int),Cs.flatten++Bs.flatten++R) ((Es.flatten.length:Int),Es.flatten++As.flatten++R)/\zkl key (2*s) Es/\zkl key s As/\As.length<=1/\zcL key (Cs.flatten++Bs.flatten++R) (Es.flatten++As.flatten++R):=by
    intro m Cs Bs R h1 hC hB hR hn;have hbl:=hB.len;simp only [List.length_append] at hn;have:s*Bs.length<=s:=by
      rcases Nat.le_one_iff_eq_zero_or_eq_one.1 h1 with h | h<;>rw [h]<;>omega
    refine ⟨Cs,Bs,Lp.done ?_,hC,hB,h1,zcL.refl _⟩;unfold zyo;simp only [decide_eq_false (show ¬ ((Cs.flatten.length+2*s:Nat):Int)<=(N:Int) by omega),cond_false]
  intro m;induction m with
  | zero=>intro Cs Bs R h hC hB hR hn; exact stop 0 Cs Bs R (by omega) hC hB hR hn
  | succ m ih=>
    intro Cs Bs R h hC hB hR hn
    match Bs,h,hB,hn with
    | [],_,hB,hn=>exact stop _ Cs [] R (by simp) hC hB hR hn
    | [X],_,hB,hn=>exact stop _ Cs [X] R (by simp) hC hB hR hn
    | X::Y::Bs,h,hB,hn=>
      obtain ⟨lX,sX⟩:=hB X (by simp);obtain ⟨lY,sY⟩:=hB Y (by simp);have hB2:zkl key s Bs:=λb hb=>hB b (by simp [hb]);have hn2:=hn;simp only [List.flatten_cons,List.length_append] at hn2;obtain ⟨M,h1,h2,h3⟩:=zr3 hc big (X.length+Y.length) (by simp only [big]; omega) X Y Cs.flatten (Bs.flatten++R) (List.length_pos_iff.1 (by omega)) (List.length_pos_iff.1 (by omega)) (Nat.le_refl _) sX sY (by simp only [List.length_append]; omega);have lM:M.length=2*s:=by rw [h3.len,List.length_append]; omega
      have eF:(Cs++[M]).flatten=Cs.flatten++M:=by simp
      have lF:(Cs++[M]).flatten.length=Cs.flatten.length+2*s:=by rw [eF,List.length_append,lM]
      obtain ⟨Es,As,h4,h5,h6,h7,h8⟩:=ih (Cs++[M]) Bs R (by simp only [List.length_cons] at h; omega) (hC.snoc lM h2) hB2 hR (by simp only [List.length_append,lF]; omega);have eD:Cs.flatten++X++Y++(Bs.flatten++R)=Cs.flatten++(X::Y::Bs).flatten++R:=by simp
      have eD2:Cs.flatten++M++(Bs.flatten++R)=(Cs++[M]).flatten++Bs.flatten++R:=by simp
      rw [eD,eD2,lX,lY,show Cs.flatten.length+s+s=Cs.flatten.length+2*s by omega] at h1;refine ⟨Es,As,Lp.step ?_ h4,h5,h6,h7, ?_⟩
      · unfold zyo;have e1:w64 ((Cs.flatten.length:Int)+(s:Int))=((Cs.flatten.length+s:Nat):Int):=by rw [ze (by omega) (by omega)]; omega
        simp only [decide_eq_true (show ((Cs.flatten.length+2*s:Nat):Int)<=(N:Int) by omega),cond_true,e1,h1,Zs];rw [lF,ze (n:=2*(s:Int)) (by omega) (by omega),ze (by omega) (by omega)];simp only [Option.some.injEq,Sum.inl.injEq,Prod.mk.injEq,true_and,and_true];omega
      · refine zcL.trans ?_ h8;rw [← eD,← eD2];have e3:Cs.flatten++X++Y=Cs.flatten++(X++Y):=by simp
        rw [e3];exact ((zcL.refl _).append h3).append (zcL.refl _)
theorem zr6 (N:Nat) (hN:N<100000000000):∀ (m s:Nat) (Bs:List (List Trip)) (R:List Trip),0<s->N<=m+s->zkl key s Bs->R.length<s->zfl key R->(Bs.flatten++R).length=N ->
    ∃ M,Lp (zw7 N cmp) m ((s:Int),Bs.flatten++R) M/\zfl key M/\zcL key (Bs.flatten++R) M:=by
  have stop:∀ (m s:Nat) (Bs:List (List Trip)) (R:List Trip),0<s->N<=s->zkl key s Bs->R.length<s->zfl key R->(Bs.flatten++R).length=N->∃ M,Lp (zw7 N cmp) m ((s:Int),Bs.flatten++R) M/\zfl key M/\zcL key (Bs.flatten++R) M:=by
    intro m s Bs R h0 hs hB hR hR2 hn;refine ⟨Bs.flatten++R,Lp.done ?_, ?_,zcL.refl _⟩
    · unfold zw7;simp only [decide_eq_false (show ¬ (s:Int)<(N:Int) by omega),cond_false]
    · have hbl:=hB.len;rw [List.length_append,hbl] at hn
      match Bs,hB,hn with
      | [],_,_=>simpa using hR2
      | [X],hB,hn=>
        have:R=[]:=List.length_eq_zero_iff.1 (by simp at hn; omega);subst this;simpa using (hB X (by simp)).2
      | X::Y::Bs,hB,hn=>
        simp only [List.length_cons,Nat.mul_add] at hn;omega
  intro m;induction m with
  | zero=>intro s Bs R h0 hs hB hR hR2 hn; exact stop 0 s Bs R h0 (by omega) hB hR hR2 hn
  | succ m ih=>
    intro s Bs R h0 hs hB hR hR2 hn;by_cases hsn:N<=s
    · exact stop _ s Bs R h0 hsn hB hR hR2 hn
    · have hn2:=hn;rw [List.length_append] at hn2;have hbl:Bs.length<=Bs.flatten.length:=by
        rw [hB.len];exact Nat.le_mul_of_pos_left _ h0
      obtain ⟨Es,As,h1,h2,h3,h4,h5⟩:=zr5 hc N s hN ⟨h0,by omega⟩ Bs.length [] Bs R (Nat.le_refl _) (λb hb=>by simp at hb) hB hR (by simpa using hn);simp only [List.flatten_nil,List.length_nil,List.nil_append,Nat.zero_add] at h1 h5;have hB1:=h1.big (by simp only [big]; omega);have hlen:=h5.len;simp only [List.length_append] at hlen;have hEl:=h2.len
      -- what stands behind the blocks
      have last:∃ (Q:List Trip) ,Q.length<2*s/\zfl key Q/\zcL key (As.flatten++R) Q/\(cond (decide (w64 ((Es.flatten.length:Int)+(s:Int))<(N:Int))) (Zb (zp big (Es.flatten++As.flatten++R) (Es.flatten.length:Int) (w64 ((Es.flatten.length:Int)+(s:Int))) (N:Int) cmp) λy67=>(some (.inl ((w64 ((s:Int)*2)),y67)):Option ((Int×List Trip)⊕List Trip))) (some (.inl ((w64 ((s:Int)*2)),Es.flatten++As.flatten++R))))=some (.inl (((2*s:Nat):Int),Es.flatten++Q)):=by
        have e2:w64 ((s:Int)*2)=((2*s:Nat):Int):=by rw [ze (by omega) (by omega)]; omega
        have e1:w64 ((Es.flatten.length:Int)+(s:Int))=((Es.flatten.length+s:Nat):Int):=by rw [ze (by omega) (by omega)]; omega
        rw [e1,e2]
        match As,h3,h4 with
        | [],_,_=>
          simp only [List.flatten_nil,List.length_nil] at hlen;refine ⟨R,by omega,hR2,by simpa using zcL.refl (key:=key) R, ?_⟩;rw [decide_eq_false (by omega),cond_false]; simp
        | [X],h3,_=>
          obtain ⟨lX,sX⟩:=h3 X (by simp);simp only [List.flatten_cons,List.flatten_nil,List.append_nil] at hlen ⊢;by_cases hr:R=[]
          · subst hr;refine ⟨X,by omega,sX,by simpa using zcL.refl (key:=key) X, ?_⟩;simp only [List.length_nil] at hlen hn2;rw [decide_eq_false (by omega),cond_false]; simp
          · have hrl:=List.length_pos_iff.2 hr;obtain ⟨M,g1,g2,g3⟩:=zr3 hc big (X.length+R.length) (by simp only [big]; omega) X R Es.flatten [] (List.length_pos_iff.1 (by omega)) hr (Nat.le_refl _) sX hR2 (by simp only [List.length_append,List.length_nil]; omega);refine ⟨M,by rw [g3.len,List.length_append]; omega,g2,g3, ?_⟩;simp only [List.append_nil] at g1;rw [lX,show Es.flatten.length+s+R.length=N by omega] at g1;rw [decide_eq_true (by omega),cond_true,g1,Zs]
        | X::Y::As,_,h4=>simp at h4
      obtain ⟨Q,q1,q2,q3,q4⟩:=last;have hst:zcL key (Bs.flatten++R) (Es.flatten++Q):=by
        refine h5.trans ?_;rw [List.append_assoc];exact (zcL.refl _).append q3
      obtain ⟨M,m1,m2,m3⟩:=ih (2*s) Es Q (by omega) (by omega) h2 q1 q2 (by rw [hst.len]; exact hn);refine ⟨M,Lp.step ?_ m1,m2,hst.trans m3⟩;unfold zw7;simp only [decide_eq_true (show (s:Int)<(N:Int) by omega),cond_true];have e0:w64 (2*(s:Int))=((2*s:Nat):Int):=by rw [ze (by omega) (by omega)]; omega
      rw [e0];unfold zyo at hB1;rw [e0] at hB1;exact (congrArg (λo=>Zb o λt64:Int×List Trip=>cond (decide ((w64 (t64.1+(s:Int)))<(N:Int))) (Zb (zp big t64.2 t64.1 (w64 (t64.1+(s:Int))) (N:Int) cmp) λy67=>
        (some (.inl ((w64 ((s:Int)*2)),y67)):Option ((Int×List Trip)⊕List Trip))) (some (.inl ((w64 ((s:Int)*2)),t64.2)))) hB1).trans q4
theorem sorts (D:List Trip) (hl:D.length<100000000000):∃ M,zU D cmp=some M/\zfl key M/\zcL key D M:=by
 obtain ⟨Cs,Q,h1,h2,h3,h4⟩:=zr4 hc D.length hl D.length [] D (Nat.le_refl _) (λb hb=>by simp at hb) (by simp);simp only [List.flatten_nil,List.length_nil,List.nil_append,Nat.zero_add] at h1 h4;have hB:=h1.big (by simp only [big]; omega);have hlen:=h4.len;rw [List.length_append] at hlen;obtain ⟨M,g1,g2,g3⟩:=zuM hc Cs.flatten Q [] (by simp only [List.length_append,List.length_nil]; omega);simp only [List.append_nil] at g1;rw [show Cs.flatten.length+Q.length=D.length by omega] at g1;have hst:zcL key D (Cs.flatten++M):=h4.trans ((zcL.refl _).append g3);obtain ⟨M2,m1,m2,m3⟩:=zr6 hc D.length hl D.length 20 Cs M (by omega) (by omega) h2 (by rw [g3.len]; exact h3) g2 (by rw [hst.len]);have hB2:=m1.big (by simp only [big]; omega);refine ⟨M2, ?_,m2,hst.trans m3⟩;unfold zU zaP;rw [zw];have e1:iter (zw6 (D.length:Int) cmp) big (0,20,D)=some ((Cs.flatten.length:Int),Cs.flatten++Q):=hB;unfold zw6 at e1;rw [e1,Zs];simp only [];rw [g1,Zs];have e2:iter (zw7 (D.length:Int) cmp) big (20,Cs.flatten++M)=some M2:=hB2;unfold zw7 at e2;rw [e2]; rfl
end
end Go.Ai.Sx
/- Sorting: there is one list in order with equal ones in their order. -/
namespace Go.Ai.Sx
open Option renaming bind->Zb,bind_some->Zs
end Go.Ai.Sx
/- Sorting: an order in two steps; choosing the least one. -/
namespace Go.Ai.Sx
open Option renaming bind->Zb,bind_some->Zs
theorem zwQ {key:Trip->Int} {lt2:Trip->Trip->Prop} {L M:List Trip} (hs:zfl key M) (he:zcL key L M) (hL:L.Pairwise λa b=>key a=key b->lt2 a b):M.Pairwise λa b=>key a<key b\/(key a=key b/\lt2 a b):=by
 rw [List.pairwise_iff_forall_sublist];intro a b hab;have h1:key a<=key b:=List.pairwise_iff_forall_sublist.1 hs hab;by_cases hk:key a=key b
 . right;refine ⟨hk, ?_⟩;have h2:=hab.filter (λx=>key x==key a);rw [he (key a)] at h2;have h3:[a,b].filter (λx=>key x==key a)=[a,b]:=by simp [hk]
   rw [h3] at h2;exact List.pairwise_iff_forall_sublist.1 hL (h2.trans List.filter_sublist) hk
 . left; omega
end Go.Ai.Sx
/- Service: a day's trips,as the program makes them. -/
namespace Go.Ai.Sx
open Option renaming bind->Zb,bind_some->Zs
theorem zjd {p:Plan} {l:Line} {home:Bool} {h o from_:Int} (j:Nat):zfD p l home h o from_ j=zfD p l home h o from_ 0+j*h:=by
 induction j with
 | zero=>simp
 | succ j ih=>
  rw [← zgW (p:=p) (l:=l) home j,ih,Int.natCast_add,Int.add_mul];omega
def zyN (p:Plan) (l:Line) (home:Bool) (h o from_ last before:Int):Nat:=((before-last-zfD p l home h o from_ 0)/h+1).toNat
section
variable {p:Plan} {l:Line} (K:zpX p l) {h o from_:Int} (hh:30<=h/\h<=7200) (ho:0<=o/\o<=100000) (hf:0<=from_/\from_<=1000000) (home:Bool)
include K hh ho hf
theorem zyp {last before:Int} (hl:0<=last) (hb:0<=before/\before<=200000):zwJ p l home h o from_ last before (zyN p l home h o from_ last before)/\((zyN p l home h o from_ last before:Nat):Int)*30<=max 0 (before-from_+30):=by
 have h0:=zgX K hh ho hf home 0;unfold zyN;generalize hX:before-last-zfD p l home h o from_ 0=X;have h1:=Int.emod_add_mul_ediv X h;have h2:=Int.emod_nonneg X (show h≠0 by omega);have h3:=Int.emod_lt_of_pos X (show 0<h by omega);have h4:0<=X/h->X/h*30<=X:=λq=>by
  have:X/h*30<=X/h*h:=Int.mul_le_mul_of_nonneg_left (by omega) q;rw [Int.mul_comm (X/h) h] at this;omega
 have h5:max 0 X<=200000:=by omega
 have h6:(((X/h+1).toNat:Nat):Int)*30<=max 0 (before-from_+30):=by
  generalize X/h=Y at h4;omega
 refine ⟨⟨by omega,λj hj=>?_, ?_⟩,h6⟩
 . have hj2:(j:Int)<=X/h:=by omega
   have:=(Int.le_ediv_iff_mul_le (show 0<h by omega)).1 hj2;rw [zjd j];omega
 . have hj2:¬ ((((X/h+1).toNat:Nat):Int)<=X/h):=by omega
   rw [Int.le_ediv_iff_mul_le (show 0<h by omega)] at hj2;rw [zjd];omega
end
def mkT (p:Plan) (s:Service) (i:Nat) (home:Bool) (from_:Int) (j:Nat):Trip:=((i:Int),home,zyl p (ln0 s i) home (hd0 s i) (of0 s i) from_ j,zfD p (ln0 s i) home (hd0 s i) (of0 s i) from_ j,())
def zw8 (p:Plan) (s:Service) (i:Nat) (home:Bool) (from_:Int) (w:List Works) (j:Nat):Bool:=zzH (zd4 (ln0 s i) home).1 w (zfD p (ln0 s i) home (hd0 s i) (of0 s i) from_ j) (zbO p (ln0 s i) (zd4 (ln0 s i) home))
def trN (p:Plan) (s:Service) (w:List Works) (i:Nat) (home:Bool) (from_:Int) (n:Nat):List Trip:=((List.range n).filter (zw8 p s i home from_ w)).map (mkT p s i home from_)
def trC (p:Plan) (s:Service) (i:Nat) (home:Bool) (from_ until_:Int):Nat:=zyN p (ln0 s i) home (hd0 s i) (of0 s i) from_ (zbO p (ln0 s i) (zd4 (ln0 s i) home)) until_
def trL (p:Plan) (s:Service) (w:List Works) (from_ until_:Int) (i:Nat) (home:Bool):List Trip:=trN p s w i home from_ (trC p s i home from_ until_)
def zne (p:Plan) (s:Service) (w:List Works) (from_ until_:Int) (n:Nat):List (List Trip):=(List.range n).flatMap λi=>[trL p s w from_ until_ i false,trL p s w from_ until_ i true]
theorem zug {p:Plan} {s:Service} {w:List Works} {i:Nat} {home:Bool} {from_:Int} (n:Nat):trN p s w i home from_ (n+1)=trN p s w i home from_ n++(if zw8 p s i home from_ w n then [mkT p s i home from_ n] else []):=by
 unfold trN;rw [List.range_succ,List.filter_append,List.map_append];congr 1;by_cases h:zw8 p s i home from_ w n=true
 . simp [List.filter_cons,h]
 . simp [List.filter_cons,h]
theorem zn9 {p:Plan} {s:Service} {w:List Works} {i:Nat} {home:Bool} {from_:Int} (n:Nat):(trN p s w i home from_ n).length<=n:=by
 unfold trN;rw [List.length_map];have:=List.length_filter_le (zw8 p s i home from_ w) (List.range n);rwa [List.length_range] at this
theorem zhU {p:Plan} {s:Service} {w:List Works} {a b:Int} (n:Nat):zne p s w a b (n+1)=zne p s w a b n++[trL p s w a b n false]++[trL p s w a b n true]:=by
 unfold zne;rw [List.range_succ,List.flatMap_append];simp
theorem zo4 {p:Plan} {s:Service} {w:List Works} {a b:Int} (n:Nat):(zne p s w a b n).length=2*n:=by
 induction n with
 | zero=>rfl
 | succ n ih=>
  rw [zhU];simp only [List.length_append,ih,List.length_cons,List.length_nil];omega
section
variable {p:Plan} {s:Service} (V:zrZ p s) (H:zpL p s) {w:List Works} (hw:w.length<=9223372036854775807) {from_ until_:Int} (hf:0<=from_/\from_<=until_) (hu:until_<=200000)
include V H hf hu
theorem zuh {i:Nat} (hi:i<s.1.length):0<=of0 s i/\of0 s i<=100000:=by
 have h1:=V.ob i hi;have h2:=V.hb i hi;omega
theorem zo5 {i:Nat} (hi:i<s.1.length) (home:Bool):zwJ p (ln0 s i) home (hd0 s i) (of0 s i) from_ (zbO p (ln0 s i) (zd4 (ln0 s i) home)) until_ (trC p s i home from_ until_)/\((trC p s i home from_ until_:Nat):Int)*30<=until_-from_+30:=by
 have K:=lnK V H hi;have KC:zss p (ln0 s i) (zd4 (ln0 s i) home):=csO K;have l1:=KC.l1;have:=zyp K (V.hb i hi) (zuh V H hf hu hi) (from_:=from_) (by omega) home (last:=zbO p (ln0 s i) (zd4 (ln0 s i) home)) (by omega) (before:=until_) (by omega);refine ⟨this.1, ?_⟩;have h2:=this.2;unfold trC;omega
def zyq (p:Plan) (s:Service) (w:List Works) (until_:Int) (i:Nat) (home:Bool):List Trip->(Int×Int)->Option (List Trip⊕List Trip):=(λs183 x168=>
Zb (zt (rnS p (ln0 s i)) (cond home 1 0)) λy186=>
cond (decide ((w64 (x168.1+y186))>until_)) (some (.inr s183)) (Zb (zau (rnS p (ln0 s i)) (cond home 1 0) x168.1 w) λy188=>
cond (y188) (Zb (zda 32 s183 ([(((i:Int),(cond home 1 0==(1:Int)),x168.2,x168.1,()):Trip)])) λx190=>
some (.inl x190)) (some (.inl s183))))
include hw in
theorem zuO {i:Nat} (hi:i<s.1.length) (home:Bool):zF (zyq p s w until_ i home) [] (rnS p (ln0 s i)) (cond home 1 0) (hd0 s i) (of0 s i) from_=some (.inr (trL p s w from_ until_ i home)):=by
 have K:=lnK V H hi;have KC:zss p (ln0 s i) (zd4 (ln0 s i) home):=csO K;have l1:=KC.l1;have l2:=KC.l2;have hh:=V.hb i hi;have ho:=zuh V H hf hu hi;obtain ⟨C,_⟩:=zo5 V H hf hu hi home;have hbd:=zym K hh ho (from_:=from_) (by omega) home (by omega) (show 0<=until_/\until_<=200000 by omega) C;have hla:zt (rnS p (ln0 s i)) (cond home 1 0)=some (zbO p (ln0 s i) (zd4 (ln0 s i) home)):=by
  have:=zj5 K home;rw [this]; cases home<;>rfl
 have hside:(cond home 1 0==(1:Int))=home:=by cases home<;>rfl
 refine zwH K hh ho (from_:=from_) (by omega) home (N:=trC p s i home from_ until_) (by have:=C.b; omega) (step:=zyq p s w until_ i home) (λj=>trN p s w i home from_ j) (trL p s w from_ until_ i home) (by have:=hbd _ (Nat.le_refl _); omega) (λj hj=>?_) ?_
 . have h1:=C.i j hj;have h2:=hbd j (by omega);have hjb:=C.b;unfold zyq;simp only [hla,Zs,hside];rw [ze (n:=zfD p (ln0 s i) home (hd0 s i) (of0 s i) from_ j+_) (by omega) (by omega),decide_eq_false (by omega),cond_false,zyk K home (by omega) w hw,Zs,zug];have hm:zzH (zd4 (ln0 s i) home).1 w (zfD p (ln0 s i) home (hd0 s i) (of0 s i) from_ j) (zbO p (ln0 s i) (zd4 (ln0 s i) home))=zw8 p s i home from_ w j:=rfl;rw [hm];cases zw8 p s i home from_ w j with
   | false=>simp
   | true=>
    have hl:=zn9 (p:=p) (s:=s) (w:=w) (i:=i) (home:=home) (from_:=from_) j;simp only [cond_true,if_true];rw [zaQ (by simp; omega),Zs];rfl
 . have h1:=C.e;have h2:=hbd _ (Nat.le_refl _);unfold zyq;simp only [hla,Zs];rw [ze (n:=zfD p (ln0 s i) home (hd0 s i) (of0 s i) from_ _+_) (by omega) (by omega),decide_eq_true (by omega),cond_true];rfl
include hw in
theorem zr7 {i:Nat} (hi:i<s.1.length) (acc:List (List Trip)) (ha:acc.length<=1000):iter (σ:=((List (List Trip))×Int)) (τ:=(List (List Trip))) (λs157=>
cond (decide (s157.2<2)) (Zb (idx s.2.1 (i:Int)) λx165=>
Zb (idx s.2.2.1 (i:Int)) λx166=>
Zb (zak (rnS p (ln0 s i)) s157.2 x165 x166 from_) λy167=>
Zb (zF (σ:=(List Trip)) (τ:=(List Trip)) (λs183 x168=>
Zb (zt (rnS p (ln0 s i)) s157.2) λy186=>
cond (decide ((w64 (x168.1+y186))>until_)) (some (.inr s183)) (Zb (zau (rnS p (ln0 s i)) s157.2 x168.1 w) λy188=>
cond (y188) (Zb (zda 32 s183 ([(((i:Int),(s157.2==1),x168.2,x168.1,()):Trip)])) λx190=>
some (.inl x190)) (some (.inl s183)))) ([]) y167.1 y167.2.1 y167.2.2.1 y167.2.2.2.1 y167.2.2.2.2) λt192=>
alt (λb194=>Zb (zda 24 s157.1 ([b194])) λx197=>
some (.inl (x197,(w64 (s157.2+1))))) (λb195=>Zb (zda 24 s157.1 ([b195])) λx200=>
some (.inl (x200,(w64 (s157.2+1))))) t192) (some (.inr s157.1))) big (acc,0)=some (acc++[trL p s w from_ until_ i false]++[trL p s w from_ until_ i true]):=by
 have hlh:=V.h;have hlo:=V.o;have a1:idx s.2.1 (i:Int)=some (hd0 s i):=zz (l:=s.2.1) 0 (by omega);have a2:idx s.2.2.1 (i:Int)=some (of0 s i):=zz (l:=s.2.2.1) 0 (by omega);have hd:∀ (r:zl) (a b c d:Int),zak r a b c d=some (r,a,b,c,d):=λ_ _ _ _ _=>rfl;have e0:=zuO V H hw hf hu hi false;have e1:=zuO V H hw hf hu hi true;unfold zyq at e0 e1;simp only [cond_true,cond_false] at e0 e1;refine (Lp.step (N:=1) (s':=(acc++[trL p s w from_ until_ i false],1)) ?_ (Lp.step (N:=0) (s':=(acc++[trL p s w from_ until_ i false]++[trL p s w from_ until_ i true],2)) ?_ (Lp.done (N:=0) rfl))).big (by simp only [big]; omega)
 . simp only [show decide ((0:Int)<2)=true from rfl,cond_true,a1,a2,hd,Zs];rw [e0,Zs,zjT,zaQ (by simp; omega)];rfl
 . simp only [show decide ((1:Int)<2)=true from rfl,cond_true,a1,a2,hd,Zs];rw [e1,Zs,zjT,zaQ (by simp; omega)];rfl
end
theorem zwR {n:Nat} (hn:n<=100000000):zao (n:Int)=some []:=by
 unfold zao;rw [show w64 ((0:Int)-0)=0 from rfl,Int.sub_zero,ze (by omega) (by omega),decide_eq_false (by omega)];by_cases h:n=0
 . subst h; rfl
 . rw [decide_eq_true (by omega)];simp only [cond_false,cond_true];unfold znO;rw [if_pos (by omega),Zs];unfold slz;have:(List.replicate (n:Int).toNat ((0,false,0,0,()):Trip)).isEmpty=false:=by
    rw [List.isEmpty_eq_false_iff];intro e;have:=congrArg List.length e;simp at this;omega
   rw [this]; rfl
theorem zr8 (ls:List (List Trip)) (hl:ls.length<=1000000) (hs:ls.flatten.length<=100000000):zaj ls=some ls.flatten:=by
  unfold zaj;have hfl:∀ i,(ls.take i).flatten.length<=ls.flatten.length:=λi=>by
    have h:=List.take_append_drop i ls;have h2:ls.flatten.length=(ls.take i).flatten.length+(ls.drop i).flatten.length:=by
      conv=>lhs; rw [← h,List.flatten_append,List.length_append]
    omega
  have hsn:∀ i (h:i<ls.length),(ls.take (i+1)).flatten=(ls.take i).flatten++ls.getD i []:=λi h=>by
    rw [List.take_add_one,List.flatten_append];simp [List.getD,h]
  have k1:∀ k i:Nat,i+k=ls.length->Lp (λs4:Int×Int=>
cond (decide (s4.2<(zq ls))) (Zb (idx ls s4.2) λx7=>
cond (decide ((w64 (s4.1+(zq x7)))<0)) (none) (some (Sum.inl ((w64 (s4.1+(zq x7))),(w64 (s4.2+1)))))) (some (.inr s4.1))) k (((ls.take i).flatten.length:Nat),(i:Int)) ((ls.flatten.length:Nat):Int):=by
    intro k;induction k with
    | zero=>
      intro i hi;have:i=ls.length:=by omega
      subst this;refine Lp.done ?_;simp only [zW,cond_false,List.take_length]
    | succ k ih=>
      intro i hi;have hil:i<ls.length:=by omega
      have h1:=hfl (i+1);have h2:=hsn i hil;have h3:(ls.take (i+1)).flatten.length=(ls.take i).flatten.length+(ls.getD i []).length:=by rw [h2,List.length_append]
      refine Lp.step ?_ (ih (i+1) (by omega));simp only [zM hil,cond_true,zz [] hil,Zs,zx (show i<9223372036854775807 by omega)];rw [zw,ze (by omega) (by omega),decide_eq_false (by omega),cond_false,h3];congr 3
  have k2:∀ k i:Nat,i+k=ls.length->Lp (λs17:List Trip×Int=>
cond (decide (s17.2<(zq ls))) (Zb (idx ls s17.2) λx20=>
Zb (zda 32 s17.1 x20) λx21=>
some (Sum.inl (x21,(w64 (s17.2+1))))) (some (.inr s17.1))) k ((ls.take i).flatten,(i:Int)) ls.flatten:=by
    intro k;induction k with
    | zero=>
      intro i hi;have:i=ls.length:=by omega
      subst this;refine Lp.done ?_;simp only [zW,cond_false,List.take_length]
    | succ k ih=>
      intro i hi;have hil:i<ls.length:=by omega
      have h1:=hfl (i+1);have h2:=hsn i hil;have h3:(ls.take (i+1)).flatten.length=(ls.take i).flatten.length+(ls.getD i []).length:=by rw [h2,List.length_append]
      refine Lp.step ?_ (ih (i+1) (by omega));simp only [zM hil,cond_true,zz [] hil,Zs,zx (show i<9223372036854775807 by omega)];rw [zaQ (by omega),Zs,h2]
  have e1:=(k1 ls.length 0 (by omega)).big (by simp only [big]; omega);have e2:=(k2 ls.length 0 (by omega)).big (by simp only [big]; omega);rw [show (((ls.take 0).flatten.length:Nat):Int)=0 from rfl,show ((0:Nat):Int)=0 from rfl] at e1;rw [show (ls.take 0).flatten=[] from rfl,show ((0:Nat):Int)=0 from rfl] at e2;rw [e1,Zs,zwR hs,Zs,e2];rfl
def zkm (x:Trip):Int:=x.2.2.2.1
theorem zwS (x y:Trip):∃ v,zct (x,y).1 (x,y).2=some v/\(v<0↔zkm x<zkm y):=by
 unfold zct zei zkm;have hN:∀ z:Int,za6 z=some false:=λz=>by
  unfold za6;simp
 simp only [hN,Zs,cond_false];by_cases h:x.2.2.2.1<y.2.2.2.1
 . rw [decide_eq_true h];exact ⟨-1,rfl,by simp [h]⟩
 . rw [decide_eq_false h];by_cases h2:x.2.2.2.1>y.2.2.2.1
   . rw [decide_eq_true h2];exact ⟨1,rfl,by simp [h]⟩
   . rw [decide_eq_false h2];exact ⟨0,rfl,by simp [h]⟩
section
variable {p:Plan} {s:Service} (V:zrZ p s) (H:zpL p s) {w:List Works} {from_ until_:Int} (hf:0<=from_/\from_<=until_) (hu:until_<=200000)
include V H hf hu
def zst (p:Plan) (s:Service) (w:List Works) (from_ until_:Int):List Trip:=(zne p s w from_ until_ s.1.length).flatten
theorem zo6 (n:Nat) (hn:n<=s.1.length):((zne p s w from_ until_ n).flatten.length:Int)*15<=n*(until_-from_+30):=by
 induction n with
 | zero=>simp [zne]
 | succ n ih=>
  have h1:=ih (by omega);have a:=(zo5 V H hf hu (i:=n) (by omega) false).2;have b:=(zo5 V H hf hu (i:=n) (by omega) true).2;have c:=zn9 (p:=p) (s:=s) (w:=w) (i:=n) (home:=false) (from_:=from_) (trC p s n false from_ until_);have d:=zn9 (p:=p) (s:=s) (w:=w) (i:=n) (home:=true) (from_:=from_) (trC p s n true from_ until_);rw [zhU,List.flatten_append,List.flatten_append,List.length_append,List.length_append];simp only [List.flatten_cons,List.flatten_nil,List.append_nil];unfold trL;rw [Int.natCast_add n 1,Int.add_mul (n:Int)];omega
theorem zr9 (hwk:zyM p w=true):∃ M,zc2 p s w from_ until_=some (if (M.length:Int)>5000 then ([],3) else (M,0))/\zfl zkm M/\zcL zkm (zst p s w from_ until_) M:=by
  have hn:=V.n;have hw:w.length<=9223372036854775807:=by
    unfold zyM at hwk;rw [Bool.and_eq_true] at hwk;have h1:=of_decide_eq_true hwk.1;rw [zw] at h1;omega
  have hlen:=zo6 V H (w:=w) hf hu s.1.length (Nat.le_refl _);have hal:(zst p s w from_ until_).length<=100000000:=by
    unfold zst;have:(s.1.length:Int)*(until_-from_+30)<=20*200030:=Int.mul_le_mul (by omega) (by omega) (by omega) (by omega);omega
  obtain ⟨M,m1,m2,m3⟩:=sorts (cmp:=λx=>zct x.1 x.2) (key:=zkm) zwS (zst p s w from_ until_) (by omega);refine ⟨M, ?_,m2,m3⟩;unfold zc2;rw [zpM H,if_pos (zwG V H),Zs];simp only [Bool.not_true,cond_false,zpO (zd1 V.v) w hw,hwk,zhq,zal.2 hf,Zs];rw [decide_eq_false (show ¬ until_>200000 by omega),cond_false];have key:∀ k i:Nat,i+k=s.1.length->Lp (λs108:List (List Trip)×Int=>
cond (decide (s108.2<(zq (s.1.map (rnS p))))) (Zb (idx (s.1.map (rnS p)) s108.2) λx111=>
Zb (iter (σ:=((List (List Trip))×Int)) (τ:=(List (List Trip))) (λs157=>
cond (decide (s157.2<2)) (Zb (idx s.2.1 s108.2) λx165=>
Zb (idx s.2.2.1 s108.2) λx166=>
Zb (zak x111 s157.2 x165 x166 from_) λy167=>
Zb (zF (σ:=(List Trip)) (τ:=(List Trip)) (λs183 x168=>
Zb (zt x111 s157.2) λy186=>
cond (decide ((w64 (x168.1+y186))>until_)) (some (.inr s183)) (Zb (zau x111 s157.2 x168.1 w) λy188=>
cond (y188) (Zb (zda 32 s183 ([((s108.2,(s157.2==1),x168.2,x168.1,()):Trip)])) λx190=>
some (.inl x190)) (some (.inl s183)))) ([]) y167.1 y167.2.1 y167.2.2.1 y167.2.2.2.1 y167.2.2.2.2) λt192=>
alt (λb194=>Zb (zda 24 s157.1 ([b194])) λx197=>
some (.inl (x197,(w64 (s157.2+1))))) (λb195=>Zb (zda 24 s157.1 ([b195])) λx200=>
some (.inl (x200,(w64 (s157.2+1))))) t192) (some (.inr s157.1))) big (s108.1,0)) λt202=>
some (.inl (t202,(w64 (s108.2+1))))) (some (.inr s108.1))) k (zne p s w from_ until_ i,(i:Int)) (zne p s w from_ until_ s.1.length):=by
    intro k;induction k with
    | zero=>
      intro i hi;have:i=s.1.length:=by omega
      subst this;refine Lp.done ?_;simp only [];rw [decide_eq_false (by rw [zw,List.length_map]; omega),cond_false]
    | succ k ih=>
      intro i hi;have hil:i<s.1.length:=by omega
      refine Lp.step ?_ (ih (i+1) (by omega));have a4:idx (s.1.map (rnS p)) (i:Int)=some (rnS p (ln0 s i)):=zyj (i:=(i:Int)) (by omega);have a5:decide ((i:Int)<zq (s.1.map (rnS p)))=true:=decide_eq_true (by rw [zw,List.length_map]; omega);have hside:=zr7 V H hw hf hu hil (zne p s w from_ until_ i) (by rw [zo4]; omega);simp only [a5,cond_true,a4,Zs];rw [hside,Zs,zhU,zx (by omega)]
  have hL:=(key s.1.length 0 (by omega)).big (by simp only [big]; omega);rw [show zne p s w from_ until_ 0=[] from rfl,show ((0:Nat):Int)=0 from rfl] at hL;rw [hL,Zs];unfold zbC;rw [zr8 _ (by rw [zo4]; omega) hal,Zs,show (zne p s w from_ until_ s.1.length).flatten=zst p s w from_ until_ from rfl,m1];simp only [Zs];rw [zw];by_cases h5:(M.length:Int)>5000
  · rw [decide_eq_true h5,if_pos h5]; rfl
  · rw [decide_eq_false h5,if_neg h5]; rfl
end
end Go.Ai.Sx
/- Service: a day's trips,as the reference collects them. -/
namespace Go.Ai.Sx
open Option renaming bind->Zb,bind_some->Zs
section
variable {p:Plan} {s:Service} (V:zrZ p s) (H:zpL p s) {w:List Works} (hw:w.length<=9223372036854775807) {from_ until_:Int} (hf:0<=from_/\from_<=until_) (hu:until_<=200000)
include V H hf hu
theorem zsa (n:Nat):(zne p s w from_ until_ (n+1)).flatten=(zne p s w from_ until_ n).flatten++trL p s w from_ until_ n false++trL p s w from_ until_ n true:=by
 rw [zhU,List.flatten_append,List.flatten_append];simp
end
end Go.Ai.Sx
/- Service: the law of the trips. -/
namespace Go.Ai.Sx
open Option renaming bind->Zb,bind_some->Zs
def zyO (a b:Trip):Prop:=a.1<b.1\/(a.1=b.1/\a.2.1=false/\b.2.1=true)
theorem znf {p:Plan} {s:Service} {w:List Works} {i:Nat} {home:Bool} {from_:Int} {n:Nat} {x:Trip} (h:x∈trN p s w i home from_ n):x.1=(i:Int)/\x.2.1=home:=by
 unfold trN at h;obtain ⟨j,_,rfl⟩:=List.mem_map.1 h;exact ⟨rfl,rfl⟩
theorem zyr {p:Plan} {s:Service} {w:List Works} {i:Nat} {home:Bool} {from_:Int} {n:Nat} (hh:1<=hd0 s i):(trN p s w i home from_ n).Pairwise λa b=>zkm a=zkm b->zyO a b:=by
 unfold trN;rw [List.pairwise_map];refine List.Pairwise.filter _ (List.pairwise_lt_range.imp λ{a b} hab=>?_);intro he;exfalso;have h1:zfD p (ln0 s i) home (hd0 s i) (of0 s i) from_ a=zfD p (ln0 s i) home (hd0 s i) (of0 s i) from_ b:=he;rw [zjd a,zjd b] at h1;have h2:((a:Int)+1)*hd0 s i<=b*hd0 s i:=Int.mul_le_mul_of_nonneg_right (by omega) (by omega);rw [Int.add_mul,Int.one_mul] at h2;omega
section
variable {p:Plan} {s:Service} (V:zrZ p s) (H:zpL p s) {w:List Works} {from_ until_:Int} (hf:0<=from_/\from_<=until_) (hu:until_<=200000)
include V H hf hu
theorem zys (n:Nat) (hn:n<=s.1.length):(zne p s w from_ until_ n).flatten.Pairwise (λa b=>zkm a=zkm b->zyO a b)/\∀ x∈(zne p s w from_ until_ n).flatten,x.1<(n:Int):=by
 induction n with
 | zero=>exact ⟨List.Pairwise.nil,λx hx=>by cases hx⟩
 | succ n ih=>
  obtain ⟨h1,h2⟩:=ih (by omega);have hh:=V.hb n (by omega);rw [zsa V H hf hu];refine ⟨?_,λx hx=>?_⟩
  . rw [List.pairwise_append,List.pairwise_append];refine ⟨⟨h1,zyr (by omega),λa ha b hb _=>?_⟩,zyr (by omega),λa ha b hb _=>?_⟩
    . have:=h2 a ha;have hb:=(znf hb).1;exact .inl (by omega)
    . have hb:=znf hb;rcases List.mem_append.1 ha with ha | ha
      . have:=h2 a ha;exact .inl (by omega)
      . have ha:=znf ha;exact .inr ⟨by omega,ha.2,hb.2⟩
  . rcases List.mem_append.1 hx with hx | hx
    . rcases List.mem_append.1 hx with hx | hx
      . have:=h2 x hx; omega
      . have:=(znf hx).1; omega
    . have:=(znf hx).1; omega
end
theorem zyt {M:List Trip} {R:Trip->Trip->Prop} (h:M.Pairwise R) {i j:Nat} (hij:i<j) (hj:j<M.length):R (M.getD i E0) (M.getD j E0):=by
 have:=List.pairwise_iff_getElem.1 h i j (by omega) hj hij;rwa [show M.getD i E0=M[i]'(by omega) by simp [List.getD,show i<M.length by omega],show M.getD j E0=M[j] by simp [List.getD,hj]]
section
variable {p:Plan} {s:Service} (V:zrZ p s) (H:zpL p s) {w:List Works} (hw:w.length<=9223372036854775807) {from_ until_:Int} (hf:0<=from_/\from_<=until_) (hu:until_<=200000)
include V H hw hf hu
end
end Go.Ai.Sx
/- Service: the trips of a car,one after another. -/
namespace Go.Ai.Sx
open Option renaming bind->Zb,bind_some->Zs
def zfY (p:Plan) (l:Line) (home:Bool) (h o k:Int):Int:=zjb p l home h o+k*h
section
variable {p:Plan} {l:Line} (K:zpX p l) {h o:Int} (hh:30<=h/\h<=7200) (ho:0<=o/\o<=100000)
include K hh
theorem zhV (k:Int):zfY p l false h o k+zbO p l l.1+l.2.2.2.2.1<=zfY p l true h o k:=by
 obtain ⟨c1,c2,c3,c4,c5⟩:=zhT K (h:=h) (by omega);unfold zfY zjb;simp only [cond_true,cond_false];omega
theorem zgG (k:Int):zfY p l true h o k+zbO p l l.2.1+l.2.2.2.2.1<=zfY p l false h o (k+zcR p l h):=by
 obtain ⟨c1,c2,c3,c4,c5⟩:=zhT K (h:=h) (by omega);have e:zk1 p l=zbO p l l.1+zbO p l l.2.1+2*l.2.2.2.2.1:=rfl;unfold zfY zjb;simp only [cond_true,cond_false];rw [Int.add_mul];omega
omit K hh in
theorem zeH (hp:0<=h) {home:Bool} {a b:Int} (hab:a<=b):zfY p l home h o a<=zfY p l home h o b:=by
 have:=Int.mul_le_mul_of_nonneg_right hab hp;unfold zfY;omega
omit K hh in
theorem zgY {a b n:Int} (hn:1<=n) (hm:a%n=b%n) (hab:a<b):a+n<=b:=by
 have h1:=Int.emod_add_mul_ediv a n;have h2:=Int.emod_add_mul_ediv b n;have h3:a/n+1<=b/n:=by
  by_cases q:a/n+1<=b/n
  . exact q
  . exfalso;have:n*(b/n)<=n*(a/n):=Int.mul_le_mul_of_nonneg_left (by omega) (by omega);omega
 have h4:n*(a/n+1)<=n*(b/n):=Int.mul_le_mul_of_nonneg_left h3 (by omega);rw [Int.mul_add,Int.mul_one] at h4;omega
def zuP (home:Bool):Bool:=!home
def zwT (p:Plan) (l:Line) (h:Int) (home:Bool) (k:Int):Int:=cond home (k+zcR p l h) k
def zj9 (p:Plan) (l:Line) (home:Bool):Int:=zbO p l (zd4 l home)
theorem zwU (home:Bool) (k:Int):zfY p l home h o k+zj9 p l home+l.2.2.2.2.1<=zfY p l (zuP home) h o (zwT p l h home k):=by
 cases home
 . exact zhV K hh k
 . exact zgG K hh k
theorem zl1 (home:Bool):1<=zj9 p l home:=by
 cases home
 . exact K.o.l1
 . exact K.h.l1
theorem zyu {hy hx:Bool} {ky kx:Int} (hm:ky%zcR p l h=kx%zcR p l h) (hd:zfY p l hy h o ky<=zfY p l hx h o kx) (hne:¬ (hy=hx/\ky=kx)):(hx=zuP hy/\kx=zwT p l h hy ky)\/(zfY p l (zuP hy) h o (zwT p l h hy ky)+zj9 p l (zuP hy)<=zfY p l hx h o kx):=by
 obtain ⟨c1,c2,c3,c4,c5⟩:=zhT K (h:=h) (by omega);have hy0:=K.y;have l0:=K.o.l1;have l1:=K.h.l1;have hpos:(0:Int)<=h:=by omega
 have lt_of:∀ {home:Bool} {a b:Int},a<b->zfY p l home h o a<zfY p l home h o b:=λ{home a b} hab=>by
  have:=Int.mul_le_mul_of_nonneg_right (show a+1<=b by omega) hpos;rw [Int.add_mul,Int.one_mul] at this;unfold zfY;omega
 cases hy with
 | false=>
  cases hx with
  | false=>
   right;have hk:ky<kx:=by
    by_cases q:ky<kx
    ·exact q
    ·by_cases e:ky=kx
     ·exact absurd ⟨rfl,e⟩ hne
     ·have:=lt_of (home:=false) (show kx<ky by omega);omega
   have hs:=zgY c1 hm hk;have h1:=zgG K hh (o:=o) ky;have h2:=zeH (p:=p) (l:=l) (o:=o) hpos (home:=false) hs;show zfY p l true h o ky+zbO p l l.2.1<=_;omega
  | true=>
   by_cases e:kx=ky
   ·exact .inl ⟨rfl,e⟩
   ·right;have hk:ky<kx:=by
     by_cases q:ky<kx
     ·exact q
     ·exfalso;have hs:=zgY c1 hm.symm (show kx<ky by omega);have h1:=zgG K hh (o:=o) kx;have h2:=zeH (p:=p) (l:=l) (o:=o) hpos (home:=false) hs;omega
    have hs:=zgY c1 hm hk;have h1:=zgG K hh (o:=o) ky;have h2:=zeH (p:=p) (l:=l) (o:=o) hpos (home:=false) hs;have h3:=zhV K hh (o:=o) kx;show zfY p l true h o ky+zbO p l l.2.1<=_;omega
 | true=>
  cases hx with
  | false=>
   have hk:ky<kx:=by
    by_cases q:ky<kx
    ·exact q
    ·exfalso;have h2:=zeH (p:=p) (l:=l) (o:=o) hpos (home:=false) (show kx<=ky by omega);have h3:=zhV K hh (o:=o) ky;omega
   have hs:=zgY c1 hm hk;by_cases e:kx=ky+zcR p l h
   ·exact .inl ⟨rfl,e⟩
   ·right;have hm2:(ky+zcR p l h)%zcR p l h=kx%zcR p l h:=by rw [Int.add_emod_right]; exact hm
    have hs2:=zgY c1 hm2 (by omega);have h1:=zhV K hh (o:=o) (ky+zcR p l h);have h2:=zgG K hh (o:=o) (ky+zcR p l h);have h3:=zeH (p:=p) (l:=l) (o:=o) hpos (home:=false) hs2;show zfY p l false h o (ky+zcR p l h)+zbO p l l.1<=_;omega
  | true=>
   right;have hk:ky<kx:=by
    by_cases q:ky<kx
    ·exact q
    ·by_cases e:ky=kx
     ·exact absurd ⟨rfl,e⟩ hne
     ·have:=lt_of (home:=true) (show kx<ky by omega);omega
   have hs:=zgY c1 hm hk;have h1:=zhV K hh (o:=o) (ky+zcR p l h);have h2:=zeH (p:=p) (l:=l) (o:=o) hpos (home:=true) hs;show zfY p l false h o (ky+zcR p l h)+zbO p l l.1<=_;omega
end
section
variable {p:Plan} {s:Service} (V:zrZ p s) (H:zpL p s) {from_ until_:Int} (hf:0<=from_/\from_<=until_) (hu:until_<=200000)
include V H hf hu
theorem zo7 {i:Nat} (hi:i<s.1.length) (home:Bool) (k:Int):(((i:Int),home,k%zcR p (ln0 s i) (hd0 s i),zfY p (ln0 s i) home (hd0 s i) (of0 s i) k,()):Trip)∈trL p s [] from_ until_ i home↔from_<=zfY p (ln0 s i) home (hd0 s i) (of0 s i) k/\zfY p (ln0 s i) home (hd0 s i) (of0 s i) k+zj9 p (ln0 s i) home<=until_:=by
 have K:=lnK V H hi;have hh:=V.hb i hi;have ho:=zuh V H hf hu hi;obtain ⟨C,_⟩:=zo5 V H hf hu hi home;have hT:∀ j:Nat,zfD p (ln0 s i) home (hd0 s i) (of0 s i) from_ j=zfY p (ln0 s i) home (hd0 s i) (of0 s i) (zpP p (ln0 s i) home (hd0 s i) (of0 s i) from_+j):=λj=>rfl;have hb0:=zgX K hh ho (from_:=from_) (by omega) home 0;have hb1:=zr0 K hh ho (from_:=from_) (by omega) home;unfold trL trN;rw [List.mem_map];constructor
 . rintro ⟨j,hj,he⟩
   have hj2:=List.mem_range.1 (List.mem_filter.1 hj).1;have h1:=C.i j hj2;have h2:=zgX K hh ho (from_:=from_) (by omega) home j;have h3:zfD p (ln0 s i) home (hd0 s i) (of0 s i) from_ j=zfY p (ln0 s i) home (hd0 s i) (of0 s i) k:=congrArg (λt:Trip=>t.2.2.2.1) he;rw [← h3];exact ⟨h2.2,h1⟩
 . rintro ⟨h1,h2⟩
   generalize hK0:zpP p (ln0 s i) home (hd0 s i) (of0 s i) from_=K0 at *
   have hk:K0<=k:=by
    by_cases q:K0<=k
    . exact q
    . exfalso;have h3:=zeH (p:=p) (l:=ln0 s i) (o:=of0 s i) (show 0<=hd0 s i by omega) (home:=home) (show k+1<=K0 by omega);have h4:=hT 0;rw [show K0+((0:Nat):Int)=K0 by omega] at h4;have h5:zfY p (ln0 s i) home (hd0 s i) (of0 s i) (k+1)=zfY p (ln0 s i) home (hd0 s i) (of0 s i) k+hd0 s i:=by unfold zfY; rw [Int.add_mul,Int.one_mul]; omega
      omega
   obtain ⟨j,hj⟩:∃ j:Nat,k=K0+j:=⟨(k-K0).toNat,by omega⟩;have hjN:j<trC p s i home from_ until_:=by
    by_cases q:j<trC p s i home from_ until_
    . exact q
    . exfalso;have h3:=C.e;rw [hT] at h3;have h4:=zeH (p:=p) (l:=ln0 s i) (o:=of0 s i) (show 0<=hd0 s i by omega) (home:=home) (show K0+((trC p s i home from_ until_:Nat):Int)<=k by omega);unfold zj9 at h2;omega
   refine ⟨j,List.mem_filter.2 ⟨List.mem_range.2 hjN,rfl⟩, ?_⟩;unfold mkT zyl;rw [hT,hK0,← hj]
theorem zo8 {x:Trip}:x∈zst p s [] from_ until_↔∃ i:Nat,i<s.1.length/\∃ home:Bool,x∈trL p s [] from_ until_ i home:=by
 unfold zst zne;simp only [List.mem_flatten,List.mem_flatMap,List.mem_range];constructor
 . rintro ⟨L,⟨i,hi,hL⟩,hx⟩
   rcases List.mem_cons.1 hL with rfl | hL
   . exact ⟨i,hi,false,hx⟩
   . rcases List.mem_cons.1 hL with rfl | hL
     . exact ⟨i,hi,true,hx⟩
     . cases hL
 . rintro ⟨i,hi,home,hx⟩
   cases home
   . exact ⟨_,⟨i,hi,List.mem_cons_self ..⟩,hx⟩
   . exact ⟨_,⟨i,hi,List.mem_cons_of_mem _ (List.mem_cons_self ..)⟩,hx⟩
theorem zui {i:Nat} {home:Bool} {x:Trip} (h:x∈trL p s [] from_ until_ i home):∃ k:Int,x=((i:Int),home,k%zcR p (ln0 s i) (hd0 s i),zfY p (ln0 s i) home (hd0 s i) (of0 s i) k,()):=by
 unfold trL trN at h;obtain ⟨j,_,rfl⟩:=List.mem_map.1 h;exact ⟨_,rfl⟩
end
end Go.Ai.Sx
/- Service: the law of turns. -/
namespace Go.Ai.Sx
open Option renaming bind->Zb,bind_some->Zs
def zkn (M:List Trip) (n:Int) (oL hL:List Int) (lay i:Int) (ls:List Line) (from_ until_:Int):(Int×(List Bool)×(List Bool)×(List Int))->Option ((Int×(List Bool)×(List Bool)×(List Int))⊕(((List Bool)×(List Bool)×(List Int))⊕(Bool×(List Bool)×(List Bool)×(List Int)))):=(λs511=>
cond (decide (s511.1<(zq M))) (Zb (idx M s511.1) λx514=>
cond (x514.1 !=i) (cond (decide (x514.1<0)) (some (.inr (.inr (false,s511.2.1,s511.2.2.1,s511.2.2.2)))) (cond (decide (x514.1>=(zq ls))) (some (.inr (.inr (false,s511.2.1,s511.2.2.1,s511.2.2.2)))) (some (.inl ((w64 (s511.1+1)),s511.2.1,s511.2.2.1,s511.2.2.2))))) (cond (decide (x514.2.2.1<0)) (some (.inr (.inr (false,s511.2.1,s511.2.2.1,s511.2.2.2)))) (cond (decide (x514.2.2.1>=n)) (some (.inr (.inr (false,s511.2.1,s511.2.2.1,s511.2.2.2)))) (Zb (idx s511.2.2.1 x514.2.2.1) λx539=>
cond (x539) (Zb (idx s511.2.1 x514.2.2.1) λx541=>
cond (x514.2.1==x541) (some (.inr (.inr (false,s511.2.1,s511.2.2.1,s511.2.2.2)))) (Zb (idx s511.2.2.2 x514.2.2.1) λx544=>
cond (decide (x514.2.2.2.1<(w64 (x544+lay)))) (some (.inr (.inr (false,s511.2.1,s511.2.2.1,s511.2.2.2)))) (Zb (idx s511.2.2.1 x514.2.2.1) λx548=>
Zb (idx s511.2.1 x514.2.2.1) λx549=>
Zb (idx oL (w64 ((zq oL)-1))) λx552=>
Zb (idx s511.2.2.2 x514.2.2.1) λx553=>
cond (x514.2.1) (Zb (idx hL (w64 ((zq hL)-1))) λx557=>
Zb (idx ((s511.2.2.2).set (Int.toNat x514.2.2.1) (w64 (x514.2.2.2.1+x552))) x514.2.2.1) λx558=>
cond (decide (x514.2.2.2.1<from_)) (some (.inr (.inr (false,(s511.2.1).set (Int.toNat x514.2.2.1) x514.2.1,(s511.2.2.1).set (Int.toNat x514.2.2.1) true,((s511.2.2.2).set (Int.toNat x514.2.2.1) (w64 (x514.2.2.2.1+x552))).set (Int.toNat x514.2.2.1) (w64 (x514.2.2.2.1+x557)))))) (Zb (idx (((s511.2.2.2).set (Int.toNat x514.2.2.1) (w64 (x514.2.2.2.1+x552))).set (Int.toNat x514.2.2.1) (w64 (x514.2.2.2.1+x557))) x514.2.2.1) λx563=>
cond (decide (x563>until_)) (some (.inr (.inr (false,(s511.2.1).set (Int.toNat x514.2.2.1) x514.2.1,(s511.2.2.1).set (Int.toNat x514.2.2.1) true,((s511.2.2.2).set (Int.toNat x514.2.2.1) (w64 (x514.2.2.2.1+x552))).set (Int.toNat x514.2.2.1) (w64 (x514.2.2.2.1+x557)))))) (some (.inl ((w64 (s511.1+1)),(s511.2.1).set (Int.toNat x514.2.2.1) x514.2.1,(s511.2.2.1).set (Int.toNat x514.2.2.1) true,((s511.2.2.2).set (Int.toNat x514.2.2.1) (w64 (x514.2.2.2.1+x552))).set (Int.toNat x514.2.2.1) (w64 (x514.2.2.2.1+x557))))))) (cond (decide (x514.2.2.2.1<from_)) (some (.inr (.inr (false,(s511.2.1).set (Int.toNat x514.2.2.1) x514.2.1,(s511.2.2.1).set (Int.toNat x514.2.2.1) true,(s511.2.2.2).set (Int.toNat x514.2.2.1) (w64 (x514.2.2.2.1+x552)))))) (Zb (idx ((s511.2.2.2).set (Int.toNat x514.2.2.1) (w64 (x514.2.2.2.1+x552))) x514.2.2.1) λx569=>
cond (decide (x569>until_)) (some (.inr (.inr (false,(s511.2.1).set (Int.toNat x514.2.2.1) x514.2.1,(s511.2.2.1).set (Int.toNat x514.2.2.1) true,(s511.2.2.2).set (Int.toNat x514.2.2.1) (w64 (x514.2.2.2.1+x552)))))) (some (.inl ((w64 (s511.1+1)),(s511.2.1).set (Int.toNat x514.2.2.1) x514.2.1,(s511.2.2.1).set (Int.toNat x514.2.2.1) true,(s511.2.2.2).set (Int.toNat x514.2.2.1) (w64 (x514.2.2.2.1+x552)))))))))) (Zb (idx s511.2.2.1 x514.2.2.1) λx574=>
Zb (idx s511.2.1 x514.2.2.1) λx575=>
Zb (idx oL (w64 ((zq oL)-1))) λx578=>
Zb (idx s511.2.2.2 x514.2.2.1) λx579=>
cond (x514.2.1) (Zb (idx hL (w64 ((zq hL)-1))) λx583=>
Zb (idx ((s511.2.2.2).set (Int.toNat x514.2.2.1) (w64 (x514.2.2.2.1+x578))) x514.2.2.1) λx584=>
cond (decide (x514.2.2.2.1<from_)) (some (.inr (.inr (false,(s511.2.1).set (Int.toNat x514.2.2.1) x514.2.1,(s511.2.2.1).set (Int.toNat x514.2.2.1) true,((s511.2.2.2).set (Int.toNat x514.2.2.1) (w64 (x514.2.2.2.1+x578))).set (Int.toNat x514.2.2.1) (w64 (x514.2.2.2.1+x583)))))) (Zb (idx (((s511.2.2.2).set (Int.toNat x514.2.2.1) (w64 (x514.2.2.2.1+x578))).set (Int.toNat x514.2.2.1) (w64 (x514.2.2.2.1+x583))) x514.2.2.1) λx589=>
cond (decide (x589>until_)) (some (.inr (.inr (false,(s511.2.1).set (Int.toNat x514.2.2.1) x514.2.1,(s511.2.2.1).set (Int.toNat x514.2.2.1) true,((s511.2.2.2).set (Int.toNat x514.2.2.1) (w64 (x514.2.2.2.1+x578))).set (Int.toNat x514.2.2.1) (w64 (x514.2.2.2.1+x583)))))) (some (.inl ((w64 (s511.1+1)),(s511.2.1).set (Int.toNat x514.2.2.1) x514.2.1,(s511.2.2.1).set (Int.toNat x514.2.2.1) true,((s511.2.2.2).set (Int.toNat x514.2.2.1) (w64 (x514.2.2.2.1+x578))).set (Int.toNat x514.2.2.1) (w64 (x514.2.2.2.1+x583))))))) (cond (decide (x514.2.2.2.1<from_)) (some (.inr (.inr (false,(s511.2.1).set (Int.toNat x514.2.2.1) x514.2.1,(s511.2.2.1).set (Int.toNat x514.2.2.1) true,(s511.2.2.2).set (Int.toNat x514.2.2.1) (w64 (x514.2.2.2.1+x578)))))) (Zb (idx ((s511.2.2.2).set (Int.toNat x514.2.2.1) (w64 (x514.2.2.2.1+x578))) x514.2.2.1) λx595=>
cond (decide (x595>until_)) (some (.inr (.inr (false,(s511.2.1).set (Int.toNat x514.2.2.1) x514.2.1,(s511.2.2.1).set (Int.toNat x514.2.2.1) true,(s511.2.2.2).set (Int.toNat x514.2.2.1) (w64 (x514.2.2.2.1+x578)))))) (some (.inl ((w64 (s511.1+1)),(s511.2.1).set (Int.toNat x514.2.2.1) x514.2.1,(s511.2.2.1).set (Int.toNat x514.2.2.1) true,(s511.2.2.2).set (Int.toNat x514.2.2.1) (w64 (x514.2.2.2.1+x578)))))))))))) (some (.inr (.inl (s511.2.1,s511.2.2.1,s511.2.2.2)))))
def zng (M:List Trip) (i c:Int):Nat->Option Nat
 | 0=>none
 | q+1=>if (M.getD q E0).1=i/\(M.getD q E0).2.2.1=c then some q else zng M i c q
theorem zhW (M:List Trip) (i c:Int) (q:Nat):zng M i c (q+1)=if (M.getD q E0).1=i/\(M.getD q E0).2.2.1=c then some q else zng M i c q:=rfl
theorem zsb {M:List Trip} {i c:Int}:∀ {q r:Nat},zng M i c q=some r->r<q/\((M.getD r E0).1=i/\(M.getD r E0).2.2.1=c)/\∀ t,r<t->t<q->¬ ((M.getD t E0).1=i/\(M.getD t E0).2.2.1=c)
 | 0,r,h=>by cases h
 | q+1,r,h=>by
  rw [zhW] at h;split at h
  . rename_i hc;cases h;exact ⟨by omega,hc,λt h1 h2=>by omega⟩
  . rename_i hc;obtain ⟨h1,h2,h3⟩:=zsb h;refine ⟨by omega,h2,λt h4 h5=>?_⟩;by_cases e:t=q
    . subst e; exact hc
    . exact h3 t h4 (by omega)
def zpY (p:Plan) (l:Line) (x:Trip):Int:=x.2.2.2.1+zj9 p l x.2.1
def hmA (M:List Trip) (i:Int) (N q:Nat):List Bool:=rlN N λc=>match zng M i (c:Int) q with | some r=>(M.getD r E0).2.1 | none=>false
def mtA (M:List Trip) (i:Int) (N q:Nat):List Bool:=rlN N λc=>(zng M i (c:Int) q).isSome
def laA (p:Plan) (l:Line) (M:List Trip) (i:Int) (N q:Nat):List Int:=rlN N λc=>match zng M i (c:Int) q with | some r=>zpY p l (M.getD r E0) | none=>0
theorem zuj {M:List Trip} {i:Int} {N q:Nat} (p:Plan) (l:Line) (h:(M.getD q E0).1≠i):hmA M i N (q+1)=hmA M i N q/\mtA M i N (q+1)=mtA M i N q/\laA p l M i N (q+1)=laA p l M i N q:=by
 have e:∀ c:Int,zng M i c (q+1)=zng M i c q:=λc=>by rw [zhW,if_neg (λhc=>h hc.1)]
 exact ⟨zds λc _=>by rw [e],zds λc _=>by rw [e],zds λc _=>by rw [e]⟩
theorem zwV {M:List Trip} {i:Int} {N q c:Nat} (p:Plan) (l:Line) (h:(M.getD q E0).1=i) (hc:(M.getD q E0).2.2.1=(c:Int)):(hmA M i N q).set c (M.getD q E0).2.1=hmA M i N (q+1)/\(mtA M i N q).set c true=mtA M i N (q+1)/\(laA p l M i N q).set c (zpY p l (M.getD q E0))=laA p l M i N (q+1):=by
 have e1:zng M i (c:Int) (q+1)=some q:=by rw [zhW,if_pos ⟨h,hc⟩]
 have e2:∀ d:Nat,d≠c->zng M i (d:Int) (q+1)=zng M i (d:Int) q:=λd hd=>by rw [zhW,if_neg (λhx=>hd (by have:=hx.2; omega))]
 unfold hmA mtA laA;rw [zit,zit,zit];refine ⟨zds λd _=>?_,zds λd _=>?_,zds λd _=>?_⟩;all_goals
  by_cases hd:d=c
  . subst hd; rw [if_pos rfl,e1]; try rfl
  . rw [if_neg hd,e2 d hd]
theorem zwW {A:Type} {N c:Nat} {f:Nat->A} {v:A} (hc:c<N):idx ((rlN N f).set c v) (c:Int)=some v:=by
 rw [zit,zek hc,if_pos rfl]
section
variable {p:Plan} {l:Line} (K:zpX p l) {M:List Trip} (hM:M.length<=1000000) {N:Nat} {oL hL:List Int} {lay i:Int} {ls:List Line} {from_ until_:Int} (hlay:0<=lay/\lay<=3600) (hoL:idx oL (w64 (zq oL-1))=some (zbO p l l.1)) (hhL:idx hL (w64 (zq hL-1))=some (zbO p l l.2.1))
include K hM hlay hoL hhL
theorem zsc {q:Nat} (hq:q<M.length) (hi:(M.getD q E0).1≠i) (hr:0<=(M.getD q E0).1/\(M.getD q E0).1<ls.length):zkn M (N:Int) oL hL lay i ls from_ until_ ((q:Int),hmA M i N q,mtA M i N q,laA p l M i N q)=some (.inl (((q+1:Nat):Int),hmA M i N (q+1),mtA M i N (q+1),laA p l M i N (q+1))):=by
 obtain ⟨e1,e2,e3⟩:=zuj (N:=N) p l hi;unfold zkn;simp only [zM hq,cond_true,zz E0 hq,Zs,show ((M.getD q E0).1 !=i)=true by simpa using hi,decide_eq_false (show ¬ (M.getD q E0).1<0 by omega),decide_eq_false (show ¬ (M.getD q E0).1>=zq ls by rw [zw]; omega),cond_false,e1,e2,e3];rw [zx (by omega)]
theorem zwX {q c:Nat} (hq:q<M.length) (hi:(M.getD q E0).1=i) (hc:(M.getD q E0).2.2.1=(c:Int)) (hcN:c<N) (hd:0<=(M.getD q E0).2.2.2.1/\(M.getD q E0).2.2.2.1<=1000000) (hf:from_<=(M.getD q E0).2.2.2.1) (hu:zpY p l (M.getD q E0)<=until_) (hb:∀ r,zng M i (c:Int) q=some r->(M.getD q E0).2.1≠(M.getD r E0).2.1/\zpY p l (M.getD r E0)+lay<=(M.getD q E0).2.2.2.1/\0<=zpY p l (M.getD r E0)):zkn M (N:Int) oL hL lay i ls from_ until_ ((q:Int),hmA M i N q,mtA M i N q,laA p l M i N q)=some (.inl (((q+1:Nat):Int),hmA M i N (q+1),mtA M i N (q+1),laA p l M i N (q+1))):=by
 obtain ⟨s1,s2,s3⟩:=zwV (N:=N) p l hi hc;have l0:=K.o.l1;have l1:=K.o.l2;have l2:=K.h.l1;have l3:=K.h.l2;have em:idx (mtA M i N q) (c:Int)=some (zng M i (c:Int) q).isSome:=zek hcN;have eh:idx (hmA M i N q) (c:Int)=some (match zng M i (c:Int) q with | some r=>(M.getD r E0).2.1 | none=>false):=zek hcN;have el:idx (laA p l M i N q) (c:Int)=some (match zng M i (c:Int) q with | some r=>zpY p l (M.getD r E0) | none=>0):=zek hcN;have w0:w64 ((M.getD q E0).2.2.2.1+zbO p l l.1)=(M.getD q E0).2.2.2.1+zbO p l l.1:=ze (by omega) (by omega);have w1:w64 ((M.getD q E0).2.2.2.1+zbO p l l.2.1)=(M.getD q E0).2.2.2.1+zbO p l l.2.1:=ze (by omega) (by omega);have si:∀ v:Int,idx ((laA p l M i N q).set c v) (c:Int)=some v:=λv=>zwW hcN;unfold zkn;simp only [zM hq,cond_true,zz E0 hq,Zs,show ((M.getD q E0).1 !=i)=false by simpa using hi,cond_false,hc,decide_eq_false (show ¬ (c:Int)<0 by omega),decide_eq_false (show ¬ (c:Int)>=(N:Int) by omega),em,eh,el,hoL,hhL,w0,w1,Int.toNat_natCast,si,List.set_set,decide_eq_false (show ¬ (M.getD q E0).2.2.2.1<from_ by omega),s1,s2];have hfin:∀ b:Bool,(M.getD q E0).2.1=b->(cond b (cond (decide ((M.getD q E0).2.2.2.1+zbO p l l.2.1>until_)) (some (.inr (.inr (false,hmA M i N (q+1),mtA M i N (q+1),(laA p l M i N q).set c ((M.getD q E0).2.2.2.1+zbO p l l.2.1))))) (some (.inl (w64 ((q:Int)+1),hmA M i N (q+1),mtA M i N (q+1),(laA p l M i N q).set c ((M.getD q E0).2.2.2.1+zbO p l l.2.1))))) (cond (decide ((M.getD q E0).2.2.2.1+zbO p l l.1>until_)) (some (.inr (.inr (false,hmA M i N (q+1),mtA M i N (q+1),(laA p l M i N q).set c ((M.getD q E0).2.2.2.1+zbO p l l.1))))) (some (.inl (w64 ((q:Int)+1),hmA M i N (q+1),mtA M i N (q+1),(laA p l M i N q).set c ((M.getD q E0).2.2.2.1+zbO p l l.1))))):Option ((Int×(List Bool)×(List Bool)×(List Int))⊕(((List Bool)×(List Bool)×(List Int))⊕(Bool×(List Bool)×(List Bool)×(List Int)))))=some (.inl (((q+1:Nat):Int),hmA M i N (q+1),mtA M i N (q+1),laA p l M i N (q+1))):=by
  intro b hbb;have ha:zpY p l (M.getD q E0)=(M.getD q E0).2.2.2.1+zj9 p l b:=by unfold zpY; rw [hbb]
  rw [ha] at hu s3;rw [zx (by omega)];cases b with
  | true=>
   have e:zj9 p l true=zbO p l l.2.1:=rfl;rw [e] at hu s3;rw [cond_true,decide_eq_false (by omega),cond_false,s3]
  | false=>
   have e:zj9 p l false=zbO p l l.1:=rfl;rw [e] at hu s3;rw [cond_false,decide_eq_false (by omega),cond_false,s3]
 cases hS:zng M i (c:Int) q with
 | none=>
  simp only [Option.isSome_none,cond_false];exact hfin _ rfl
 | some r=>
  obtain ⟨b1,b2,b3⟩:=hb r hS;simp only [Option.isSome_some,cond_true];rw [show ((M.getD q E0).2.1==(M.getD r E0).2.1)=false by simpa using b1,cond_false];rw [ze (n:=zpY p l (M.getD r E0)+lay) (by omega) (by omega),decide_eq_false (by omega),cond_false];exact hfin _ rfl
end
end Go.Ai.Sx
/- Service: the law of turns. -/
namespace Go.Ai.Sx
open Option renaming bind->Zb,bind_some->Zs
section
variable {p:Plan} {s:Service} (V:zrZ p s) (H:zpL p s) {from_ until_:Int} (hf:0<=from_/\from_<=until_) (hu:until_<=200000) {M:List Trip} (hM:M.length<=1000000) (hS:zfl zkm M) (hE:zcL zkm (zst p s [] from_ until_) M)
include V H hf hu hM hS hE
theorem zzV:M.Pairwise λa b=>zkm a<zkm b\/(zkm a=zkm b/\zyO a b):=zwQ (lt2:=zyO) hS hE (zys V H (w:=[]) hf hu s.1.length (Nat.le_refl _)).1
theorem zzW {q:Nat} (hq:q<M.length):∃ i:Nat,i<s.1.length/\∃ (home:Bool) (k:Int),M.getD q E0=((i:Int),home,k%zcR p (ln0 s i) (hd0 s i),zfY p (ln0 s i) home (hd0 s i) (of0 s i) k,())/\from_<=zfY p (ln0 s i) home (hd0 s i) (of0 s i) k/\zfY p (ln0 s i) home (hd0 s i) (of0 s i) k+zj9 p (ln0 s i) home<=until_:=by
 have hm:M.getD q E0∈M:=by
  rw [show M.getD q E0=M[q] by simp [List.getD,hq]];exact List.getElem_mem hq
 obtain ⟨i,hi,home,hx⟩:=(zo8 V H hf hu).1 (hE.mem.1 hm);obtain ⟨k,hk⟩:=zui V H hf hu hx;rw [hk] at hx;exact ⟨i,hi,home,k,hk,(zo7 V H hf hu hi home k).1 hx⟩
theorem zAi {a b:Nat} (hab:a<b) (hb:b<M.length):M.getD a E0≠M.getD b E0:=by
 intro he;have:=zyt (zzV V H hf hu hM hS hE) hab hb;rw [he] at this;rcases this with h | ⟨_,h | ⟨_,h1,h2⟩⟩
 . omega
 . omega
 . rw [h1] at h2; cases h2
theorem zzJ {a b:Nat} (hab:a<=b) (hb:b<M.length):zkm (M.getD a E0)<=zkm (M.getD b E0):=by
 by_cases e:a=b
 . subst e; exact Int.le_refl _
 . rcases zyt (zzV V H hf hu hM hS hE) (show a<b by omega) hb with h | h
   . omega
   . omega
theorem zwY {i:Nat} (hi:i<s.1.length) {q:Nat} (hq:q<M.length):zkn M (((zcR p (ln0 s i) (hd0 s i)).toNat:Nat):Int) (zg0 (msC p (ln0 s i) (ln0 s i).1) (ln0 s i).1) (zg0 (msC p (ln0 s i) (ln0 s i).2.1) (ln0 s i).2.1) (ln0 s i).2.2.2.2.1 (i:Int) s.1 from_ until_ ((q:Int),hmA M i (zcR p (ln0 s i) (hd0 s i)).toNat q,mtA M i (zcR p (ln0 s i) (hd0 s i)).toNat q,laA p (ln0 s i) M i (zcR p (ln0 s i) (hd0 s i)).toNat q)=some (.inl (((q+1:Nat):Int),hmA M i (zcR p (ln0 s i) (hd0 s i)).toNat (q+1),mtA M i (zcR p (ln0 s i) (hd0 s i)).toNat (q+1),laA p (ln0 s i) M i (zcR p (ln0 s i) (hd0 s i)).toNat (q+1))):=by
 have K:=lnK V H hi;have hh:=V.hb i hi;have ho:=zuh V H hf hu hi;obtain ⟨c1,c2,c3,c4,c5⟩:=zhT K (h:=hd0 s i) (by omega);obtain ⟨j,hj,hx,kx,hxe,hx1,hx2⟩:=zzW V H hf hu hM hS hE hq;by_cases hij:j=i
 . subst hij;have hyl:=K.y;have hlx:=zl1 K hh hx;have hm0:=Int.emod_nonneg kx (show zcR p (ln0 s j) (hd0 s j)≠0 by omega);have hm1:=Int.emod_lt_of_pos kx (show 0<zcR p (ln0 s j) (hd0 s j) by omega);have hcar:(M.getD q E0).2.2.1=(((kx%zcR p (ln0 s j) (hd0 s j)).toNat:Nat):Int):=by rw [hxe]; simp only []; omega
   refine zwX K hM (by omega) (zfk K.o) (zfk K.h) hq (by rw [hxe]) hcar (by omega) (by rw [hxe]; simp only []; omega) (by rw [hxe]; exact hx1) (by unfold zpY; rw [hxe]; exact hx2) (λr hr=>?_);obtain ⟨r1,⟨r2,r3⟩,r4⟩:=zsb hr;have hrl:r<M.length:=by omega
   obtain ⟨j2,hj2,hy,ky,hye,hy1,hy2⟩:=zzW V H hf hu hM hS hE hrl;have hjj:j2=j:=by rw [hye] at r2; simp only [] at r2; omega
   subst hjj;have hly:=zl1 K hh hy;have hmod:ky%zcR p (ln0 s j2) (hd0 s j2)=kx%zcR p (ln0 s j2) (hd0 s j2):=by
    rw [hye] at r3;simp only [] at r3;omega
   have hle:=zzJ V H hf hu hM hS hE (show r<=q by omega) hq;have hle2:zfY p (ln0 s j2) hy (hd0 s j2) (of0 s j2) ky<=zfY p (ln0 s j2) hx (hd0 s j2) (of0 s j2) kx:=by
    rw [hye,hxe] at hle;exact hle
   have hne:¬ (hy=hx/\ky=kx):=by
    rintro ⟨e1,e2⟩
    subst e1; subst e2;exact zAi V H hf hu hM hS hE r1 hq (by rw [hye,hxe])
   have hnd:=zwU K hh (o:=of0 s j2) hy ky;have harr:zpY p (ln0 s j2) (M.getD r E0)=zfY p (ln0 s j2) hy (hd0 s j2) (of0 s j2) ky+zj9 p (ln0 s j2) hy:=by unfold zpY; rw [hye]
   rcases zyu K hh hmod hle2 hne with ⟨e1,e2⟩ | hB
   . rw [harr,hxe,hye];simp only [];rw [← e1,← e2] at hnd;refine ⟨?_,by omega,by omega⟩;rw [e1];cases hy<;>decide
   . exfalso;have hln:=zl1 K hh (zuP hy);have hz:=(zo7 V H hf hu hj (zuP hy) (zwT p (ln0 s j2) (hd0 s j2) hy ky)).2 ⟨by omega,by omega⟩;have hzM:=hE.mem.2 ((zo8 V H hf hu).2 ⟨j2,hj,zuP hy,hz⟩);obtain ⟨t,ht,hte⟩:=List.getElem_of_mem hzM;have hte:M.getD t E0=_:=(show M.getD t E0=M[t] by simp [List.getD,ht]).trans hte;have hkt:zkm (M.getD t E0)=zfY p (ln0 s j2) (zuP hy) (hd0 s j2) (of0 s j2) (zwT p (ln0 s j2) (hd0 s j2) hy ky):=by rw [hte]; rfl
     have hkr:zkm (M.getD r E0)=zfY p (ln0 s j2) hy (hd0 s j2) (of0 s j2) ky:=by rw [hye]; rfl
     have hkq:zkm (M.getD q E0)=zfY p (ln0 s j2) hx (hd0 s j2) (of0 s j2) kx:=by rw [hxe]; rfl
     have hrt:r<t:=by
      by_cases g:r<t
      . exact g
      . have:=zzJ V H hf hu hM hS hE (show t<=r by omega) hrl;omega
     have htq:t<q:=by
      by_cases g:t<q
      . exact g
      . have:=zzJ V H hf hu hM hS hE (show q<=t by omega) ht;omega
     refine r4 t hrt htq ⟨by rw [hte], ?_⟩;rw [hte];simp only [];have hnk:zwT p (ln0 s j2) (hd0 s j2) hy ky%zcR p (ln0 s j2) (hd0 s j2)=ky%zcR p (ln0 s j2) (hd0 s j2):=by
      unfold zwT;cases hy
      . rfl
      . exact Int.add_emod_right ..
     omega
 . refine zsc K hM (by have:=K.y; omega) (zfk K.o) (zfk K.h) hq (by rw [hxe]; simp only []; omega) (by rw [hxe]; simp only []; omega)
theorem zsd {i:Nat} (hi:i<s.1.length):∃ T,iter (zkn M (zcR p (ln0 s i) (hd0 s i)) (zg0 (msC p (ln0 s i) (ln0 s i).1) (ln0 s i).1) (zg0 (msC p (ln0 s i) (ln0 s i).2.1) (ln0 s i).2.1) (ln0 s i).2.2.2.2.1 (i:Int) s.1 from_ until_) big (0,List.replicate (zcR p (ln0 s i) (hd0 s i)).toNat false,List.replicate (zcR p (ln0 s i) (hd0 s i)).toNat false,List.replicate (zcR p (ln0 s i) (hd0 s i)).toNat 0)=some (.inl T):=by
 have K:=lnK V H hi;have hh:=V.hb i hi;obtain ⟨c1,c2,c3,c4,c5⟩:=zhT K (h:=hd0 s i) (by omega);have key:∀ k q:Nat,q+k=M.length->Lp (zkn M (((zcR p (ln0 s i) (hd0 s i)).toNat:Nat):Int) (zg0 (msC p (ln0 s i) (ln0 s i).1) (ln0 s i).1) (zg0 (msC p (ln0 s i) (ln0 s i).2.1) (ln0 s i).2.1) (ln0 s i).2.2.2.2.1 (i:Int) s.1 from_ until_) k ((q:Int),hmA M i (zcR p (ln0 s i) (hd0 s i)).toNat q,mtA M i (zcR p (ln0 s i) (hd0 s i)).toNat q,laA p (ln0 s i) M i (zcR p (ln0 s i) (hd0 s i)).toNat q) (.inl (hmA M i (zcR p (ln0 s i) (hd0 s i)).toNat M.length,mtA M i (zcR p (ln0 s i) (hd0 s i)).toNat M.length,laA p (ln0 s i) M i (zcR p (ln0 s i) (hd0 s i)).toNat M.length)):=by
  intro k;induction k with
  | zero=>
   intro q hq;have:q=M.length:=by omega
   subst this;refine Lp.done ?_;unfold zkn;simp only [zW,cond_false]
  | succ k ih=>
   intro q hq;exact Lp.step (zwY V H hf hu hM hS hE hi (by omega)) (ih (q+1) (by omega))
 have hL:=(key M.length 0 (by omega)).big (by simp only [big]; omega);rw [Int.toNat_of_nonneg (by omega)] at hL;have z1:hmA M i (zcR p (ln0 s i) (hd0 s i)).toNat 0=List.replicate (zcR p (ln0 s i) (hd0 s i)).toNat false:=by rw [zhS]; rfl
 have z2:mtA M i (zcR p (ln0 s i) (hd0 s i)).toNat 0=List.replicate (zcR p (ln0 s i) (hd0 s i)).toNat false:=by rw [zhS]; rfl
 have z3:laA p (ln0 s i) M i (zcR p (ln0 s i) (hd0 s i)).toNat 0=List.replicate (zcR p (ln0 s i) (hd0 s i)).toNat 0:=by rw [zhS]; rfl
 rw [z1,z2,z3,show ((0:Nat):Int)=0 from rfl] at hL;exact ⟨_,hL⟩
end
theorem zse (hk:zca=some true) (p:Plan) (s:Service) (from_ until_:Int) (hs:s.1.length<=9223372036854775807):zbN p s from_ until_=some true:=by
  unfold zbN;obtain ⟨b,e,q⟩:=zwE p s hs;rw [e,hk];cases b with
  | false=>rfl
  | true=>
  have F:=q rfl;have H:=F.sv;have hn:=F.n;simp only [Bool.not_true,cond_false,Zs,zn7 H];obtain ⟨c8,g1,g2⟩:∃ c8,(cond (!zrY p s) (some true) (cond (decide (from_<0)) (some true) (cond (decide (from_>until_)) (some true) (cond (decide (until_>200000)) (some true) (some (decide ((w64 (until_-from_))>3000)))))))=some c8/\(c8=false->(zrY p s=true/\(0<=from_/\from_<=until_)/\until_<=200000/\until_-from_<=3000)):=by
    cases hB:zrY p s with
    | false=>exact ⟨true,rfl,by simp⟩
    | true=>
    have hz:∃ b,(some (decide (w64 (until_-from_)>3000)):Option Bool)=some b/\(b=false↔¬ w64 (until_-from_)>3000):=⟨_,rfl,by simp⟩;obtain ⟨b,h1,h2⟩:=zwI (A:=from_<0) (zwI (A:=from_>until_) (zwI (A:=until_>200000) hz));refine ⟨b,h1,λhb=>?_⟩;obtain ⟨a1,a2,a3,a4⟩:=h2.1 hb;rw [ze (by omega) (by omega)] at a4;exact ⟨rfl,by omega,by omega,by omega⟩
  rw [g1,Zs];cases c8 with
  | true=>rfl
  | false=>
  obtain ⟨hB,hf,hu,h3⟩:=g2 rfl;have V:=zzE hB;obtain ⟨M,m1,m2,m3⟩:=zr9 V H (w:=[]) hf hu (by rfl);have hlen:=zo6 V H (w:=[]) hf hu s.1.length (Nat.le_refl _);have hAl:(zst p s [] from_ until_).length<=1000:=by
    have:(s.1.length:Int)*(until_-from_+30)<=3*3030:=Int.mul_le_mul (by omega) (by omega) (by omega) (by omega);unfold zst;omega
  have hl:=m3.len;rw [m1,if_neg (by omega)];simp only [cond_false,Zs,show ((0:Int)!=0)=false from rfl];have h:=zeE (f:=λs310:Int=>
cond (decide (s310<(zq s.1))) (Zb (idx s.1 s310) λx313=>
Zb (idx s.2.1 s310) λx317=>
Zb (zaX p x313 x317) λy318=>
Zb (z9 p x313 false) λy319=>
Zb (z9 p x313 true) λy320=>
cond (y318.2 !=0) (some (.inr (.inr false))) (cond (y319.2 !=0) (some (.inr (.inr false))) (cond (y320.2 !=0) (some (.inr (.inr false))) (cond ((zq y319.1)==0) (some (.inr (.inr false))) (cond ((zq y320.1)==0) (some (.inr (.inr false))) (cond (decide (y318.1<1)) (some (.inr (.inr false))) (Zb (mkO 8 y318.1 (0:Int)) λx337=>
Zb (mkO 1 y318.1 (false:Bool)) λx339=>
Zb (mkO 1 y318.1 (false:Bool)) λx341=>
Zb (iter (zkn M y318.1 y319.1 y320.1 x313.2.2.2.2.1 s310 s.1 from_ until_) big (0,x341,x339,x337)) λt597=>
alt (λb599=>some (.inl (w64 (s310+1)))) (λb600=>some (.inr (.inr b600.1))) t597))))))) (some (.inr (.inl ():Unit⊕Bool)))) (λk=>(k:Int)) s.1.length (λ_=>true) (.inr false) (.inl ()) (s0:=0) rfl (by simp only [big]; omega) (λi hi=>by
      have K:=lnK V H hi;have hh:=V.hb i hi;have hlh:=V.h;obtain ⟨c1,c2,c3,c4,c5⟩:=zhT K (h:=hd0 s i) (by omega);have a0:idx s.1 (i:Int)=some (ln0 s i):=zz L0 hi;have a1:idx s.2.1 (i:Int)=some (hd0 s i):=zz (l:=s.2.1) 0 (by omega);have hC:=zyf (H.l i hi) (hd0 s i);have hO:=zlZ (H.l i hi) false;have hX:=zlZ (H.l i hi) true;rw [V.v,V.l i hi] at hC hO hX;rw [zal.2 hh,if_pos (by rfl)] at hC;rw [if_pos (by rfl)] at hO hX;have n1:=K.o.C.n;have n2:=K.h.C.n;have z1:(zq (zg0 (msC p (ln0 s i) (ln0 s i).1) (ln0 s i).1)==0)=false:=by
        rw [zw,zi9]; simp only [beq_eq_false_iff_ne,ne_eq]; omega
      have z2:(zq (zg0 (msC p (ln0 s i) (ln0 s i).2.1) (ln0 s i).2.1)==0)=false:=by
        rw [zw,zi9]; simp only [beq_eq_false_iff_ne,ne_eq]; omega
      have k1:mkO 8 (zcR p (ln0 s i) (hd0 s i)) (0:Int)=some (List.replicate (zcR p (ln0 s i) (hd0 s i)).toNat 0):=zlD (by omega);have k2:mkO 1 (zcR p (ln0 s i) (hd0 s i)) false=some (List.replicate (zcR p (ln0 s i) (hd0 s i)).toNat false):=zlD (by omega);obtain ⟨T,hT⟩:=zsd V H hf hu (by omega) m2 m3 hi;simp only [zM hi,cond_true,a0,a1,Zs,hC,hO,hX,show zd4 (ln0 s i) false=(ln0 s i).1 from rfl,show zd4 (ln0 s i) true=(ln0 s i).2.1 from rfl,show ((0:Int)!=0)=false from rfl,cond_false,z1,z2,decide_eq_false (show ¬ zcR p (ln0 s i) (hd0 s i)<1 by omega),k1,k2,hT,zby];rw [zx (by omega)];rfl) (by simp only [zW,cond_false])
  unfold zkn at h;rw [h];simp;rfl
end Go.Ai.Sx
/- Service: the examples of the chapter. -/
namespace Go.Ai.Sx
open Option renaming bind->Zb,bind_some->Zs
def sP (n:Int):Plan:=(([(((0,0,()),1,[((0,false,()):zk)],0,()):zb4),((((n,0,()):Spot),1,[((0,true,()):zk)],0,()):zb4)],[((0,1,[],8000,0,()):Rail)],()):Plan)
def sT:Train:=(1000,1000,8000,2000,2000,1000000,0,0,0,[1000],())
def sL (n:Int):Line:=(([((0,false,()):zH)],[1000,n/2,n],[0,20,0],()),([((0,true,()):zH)],[1000,n/2,n],[0,10,0],()),sT,0,30,())
theorem sl0:(zgZ (sP 21000) (sL 21000).1.1 sT 0 (sL 21000).1.2.1).map (·.map (·.1))=some [4400,4600]:=by kernel_rfl
theorem sl1:(zgZ (sP 21000) (sL 21000).2.1.1 sT 0 (sL 21000).2.1.2.1).map (·.map (·.1))=some [4400,4600]:=by kernel_rfl
theorem sv:zaH (sP 21000)=true:=by kernel_rfl
theorem ss0:zeG (sP 21000) (sL 21000).1.1 sT 0 (sL 21000).1.2.1=true:=by kernel_rfl
theorem ss1:zeG (sP 21000) (sL 21000).2.1.1 sT 0 (sL 21000).2.1.2.1=true:=by kernel_rfl
theorem sc0:zuJ (sP 21000) (sL 21000).1=true:=by kernel_rfl
theorem sc1:zuJ (sP 21000) (sL 21000).2.1=true:=by kernel_rfl
theorem sw0:wlS (sP 21000) (sL 21000).1.1=21000:=by kernel_rfl
theorem sw1:wlS (sP 21000) (sL 21000).2.1.1=21000:=by kernel_rfl
theorem sI:zpW (sP 21000) (sL 21000):=⟨by decide,by decide,by decide,by decide,λ_ _=>by rw [sw0]; omega,λ_ _=>by rw [sw1]; omega⟩
theorem lg0:zoX (sP 21000) (sL 21000) (sL 21000).1=some [4400,4600]:=by
 unfold zoX;rw [if_pos (show zeG (sP 21000) (sL 21000).1.1 (sL 21000).2.2.1 (sL 21000).2.2.2.1 (sL 21000).1.2.1=true from ss0)];exact sl0
theorem lg1:zoX (sP 21000) (sL 21000) (sL 21000).2.1=some [4400,4600]:=by
 unfold zoX;rw [if_pos (show zeG (sP 21000) (sL 21000).2.1.1 (sL 21000).2.2.1 (sL 21000).2.2.2.1 (sL 21000).2.1.2.1=true from ss1)];exact sl1
theorem sr0:zh0 (sP 21000) (sL 21000) (sL 21000).1=some [4400,4600]:=by unfold zh0; rw [if_pos sc0]; exact lg0
theorem sr1:zh0 (sP 21000) (sL 21000) (sL 21000).2.1=some [4400,4600]:=by unfold zh0; rw [if_pos sc1]; exact lg1
theorem sm0:msC (sP 21000) (sL 21000) (sL 21000).1=[4400,4600]:=by unfold msC; rw [sr0]; rfl
theorem sm1:msC (sP 21000) (sL 21000) (sL 21000).2.1=[4400,4600]:=by unfold msC; rw [sr1]; rfl
theorem zsf:zd2 (sP 21000) (sL 21000)=true:=by
 unfold zd2 okC;rw [sr0,sr1];kernel_rfl
theorem zAj:zbO (sP 21000) (sL 21000) (sL 21000).1=30:=by unfold zbO; rw [sm0]; kernel_rfl
theorem zAk:zbO (sP 21000) (sL 21000) (sL 21000).2.1=20:=by unfold zbO; rw [sm1]; kernel_rfl
theorem srd:zk1 (sP 21000) (sL 21000)=110:=by unfold zk1; rw [zAj,zAk]; rfl
theorem zsg:zdp 21000=some (sP 21000,sL 21000):=by kernel_rfl
theorem zsh {p:Plan} {l:Line} (hs:zdp 21000=some (p,l)) (hR:zbI p l.1.1 l.2.2.1 0 l.1.2.1=some ([4400,4600],0)) (hO:z9 p l false=some ([0,25,30],0)) (hX:z9 p l true=some ([0,15,20],0)) (hN:zcp p l=some (110,0)) (hC:zaX p l 110=some (1,0)) (hD:zaX p l 109=some (2,0)):zca=some true:=by
 unfold zca;rw [hs,Zs];simp only [hR,hO,hX,hN,Zs];rw [show w64 (110-1)=109 from rfl];simp only [hC,hD,Zs];rfl
theorem kR:zbI (sP 21000) (sL 21000).1.1 (sL 21000).2.2.1 0 (sL 21000).1.2.1=some ([4400,4600],0):=by
 obtain ⟨e,h1,_⟩:=zzU (sP 21000) (sL 21000) (sL 21000).1 sI.w1 (by decide) (by rw [sw0]; omega);rw [lg0] at h1;exact h1
theorem kB {p:Plan} {l:Line} (hv:zaH p=true) (hl:zd2 p l=true):(zaH p&&zd2 p l)=true:=by rw [hv,hl]; rfl
theorem ko:zg0 (msC (sP 21000) (sL 21000) (sL 21000).1) (sL 21000).1=[0,25,30]:=by rw [sm0]; kernel_rfl
theorem kx:zg0 (msC (sP 21000) (sL 21000) (sL 21000).2.1) (sL 21000).2.1=[0,15,20]:=by rw [sm1]; kernel_rfl
theorem kO {p:Plan} {l:Line} (H:zpW p l) (hv:zaH p=true) (hl:zd2 p l=true) {home:Bool} {o:List Int} (h:zg0 (msC p l (zd4 l home)) (zd4 l home)=o):z9 p l home=some (o,0):=by
 rw [zlZ H,if_pos (kB hv hl),h]
theorem kC {p:Plan} {l:Line} (H:zpW p l) (hv:zaH p=true) (hl:zd2 p l=true) {h c:Int} (hi:inB h 30 7200=true) (hc:(zk1 p l+h-1)/h=c):zaX p l h=some (c,0):=by
 rw [zyf H,if_pos (by rw [kB hv hl,hi]; rfl)];unfold zcR;rw [hc]
theorem zyv:zca=some true:=
 zsh zsg kR (kO sI sv zsf ko) (kO sI sv zsf kx) (by rw [zye sI,if_pos (kB sv zsf),srd]) (kC sI sv zsf rfl (by rw [srd]; rfl)) (kC sI sv zsf rfl (by rw [srd]; rfl))
end Go.Ai.Sx
/- ServiceTurns: the law,with the chapter's examples settled. -/
namespace Go.Ai.Sx
open Option renaming bind->Zb,bind_some->Zs
theorem zsi (p:Plan) (s:Service) (from_ until_:Int) (hs:s.1.length<=9223372036854775807):zbN p s from_ until_=some true:=zse zyv p s from_ until_ hs
end Go.Ai.Sx