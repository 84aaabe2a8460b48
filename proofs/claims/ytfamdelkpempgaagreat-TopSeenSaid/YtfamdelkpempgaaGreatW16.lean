/- Sorting: slices.SortStableFunc sorts,and equal ones stay in their order. -/
import Derived.Test.YtfamdelkpempgaaGreatW15
import Derived.KernelRfl
set_option linter.unusedSimpArgs false
set_option linter.unusedVariables false
set_option linter.unusedSectionVars false
open Option renaming some→Ob,none→Oe
open Bool renaming false→Oc,true→Od
open Option renaming bind->Zb,bind_some->Zs
namespace Go.Ai.Sx
def zzf (n_:Int) (cmp:(Trip×Trip)->Option Int):(Int×Int×List Trip)->Option ((Int×Int×List Trip)⊕(Int×List Trip)):=(λs7=>
cond (decide (s7.2.1<=n_)) (Zb (zJ s7.2.2 s7.1 s7.2.1 cmp) λy10=>
Ob (.inl (s7.2.1,w64 (s7.2.1+20),y10))) (Ob (.inr (s7.1,s7.2.2))))
def zAx (n_:Int) (cmp:(Trip×Trip)->Option Int) (w_:Int):(Int×Int×List Trip)->Option ((Int×Int×List Trip)⊕(Int×List Trip)):=(λs59=>
cond (decide (s59.2.1<=n_)) (Zb (zu big s59.2.2 s59.1 (w64 (s59.1+w_)) s59.2.1 cmp) λy62=>
Ob (.inl (s59.2.1,w64 (s59.2.1+w64 (2*w_)),y62))) (Ob (.inr (s59.1,s59.2.2))))
def zzg (n_:Int) (cmp:(Trip×Trip)->Option Int):(Int×List Trip)->Option ((Int×List Trip)⊕List Trip):=(λs50=>
cond (decide (s50.1<n_)) (Zb (iter (σ:=(Int×Int×List Trip)) (τ:=(Int×List Trip)) (λs59=>
cond (decide (s59.2.1<=n_)) (Zb (zu big s59.2.2 s59.1 (w64 (s59.1+s50.1)) s59.2.1 cmp) λy62=>
Ob (.inl (s59.2.1,w64 (s59.2.1+w64 (2*s50.1)),y62))) (Ob (.inr (s59.1,s59.2.2)))) big (0,w64 (2*s50.1),s50.2)) λt64=>
cond (decide (w64 (t64.1+s50.1)<n_)) (Zb (zu big t64.2 t64.1 (w64 (t64.1+s50.1)) n_ cmp) λy67=>
Ob (.inl (w64 (s50.1*2),y67))) (Ob (.inl (w64 (s50.1*2),t64.2)))) (Ob (.inr s50.2)))
def zli (key:Trip->Int) (s:Nat) (Bs:List (List Trip)):Prop:=∀ b∈Bs,b.length=s/\zf5 key b
theorem zli.len {key:Trip->Int} {s:Nat}:∀ {Bs:List (List Trip)},zli key s Bs->Bs.flatten.length=s*Bs.length
 | [],_=>by simp
 | b::Bs,h=>by
  have h1:=(h b Ol).1;have h2:=zli.len (Bs:=Bs) λc hc=>h c (by simp [hc]);rw [List.flatten_cons,List.length_append,h1,h2,List.length_cons,Nat.mul_add]; omega
theorem zli.snoc {key:Trip->Int} {s:Nat} {Bs:List (List Trip)} {M:List Trip} (h:zli key s Bs) (h1:M.length=s) (h2:zf5 key M):zli key s (Bs++[M]):=λb hb=>by
 rcases List.mem_append.1 hb with hb | hb
 . exact h b hb
 . rw [List.mem_singleton] at hb; subst hb; exact ⟨h1,h2⟩
section
variable {cmp:(Trip×Trip)->Option Int} {key:Trip->Int} (hc:∀ x y,∃ v,cmp (x,y)=Ob v/\(v<0↔key x<key y))
include hc
theorem ztO (N:Nat) (hN:N<100000000000):∀ (m:Nat) (Bs:List (List Trip)) (R:List Trip),R.length<=m->zli key 20 Bs->(Bs.flatten++R).length=N ->
    ∃ (Cs:List (List Trip)) (Q:List Trip),Lp (zzf N cmp) m ((Bs.flatten.length:Int),((Bs.flatten.length+20:Nat):Int),Bs.flatten++R) ((Cs.flatten.length:Int),Cs.flatten++Q)/\zli key 20 Cs/\Q.length<20/\zdf key (Bs.flatten++R) (Cs.flatten++Q):=by
  have stop:∀ (m:Nat) (Bs:List (List Trip)) (R:List Trip),R.length<20->zli key 20 Bs->(Bs.flatten++R).length=N->∃ (Cs:List (List Trip)) (Q:List Trip),Lp (zzf N cmp) m ((Bs.flatten.length:Int),((Bs.flatten.length+20:Nat):Int),Bs.flatten++R) ((Cs.flatten.length:Int),Cs.flatten++Q)/\zli key 20 Cs/\Q.length<20/\zdf key (Bs.flatten++R) (Cs.flatten++Q):=by
    intro m Bs R hR hB hn;rw [List.length_append] at hn;refine ⟨Bs,R,Lp.done ?_,hB,hR,zdf.refl _⟩;unfold zzf;simp only [decide_eq_false (show ¬ ((Bs.flatten.length+20:Nat):Int)<=(N:Int) by omega),cond_false]
  intro m;induction m with
  | zero=>intro Bs R h hB hn; exact stop 0 Bs R J hB hn
  | succ m ih=>
    intro Bs R h hB hn;by_cases hR:R.length<20
    · exact stop _ Bs R hR hB hn
    · have hn2:=hn;rw [List.length_append] at hn2;have eR:R.take 20++R.drop 20=R:=List.take_append_drop _ _;have l1:(R.take 20).length=20:=by rw [List.length_take]; omega
      have l2:(R.drop 20).length=R.length-20:=List.length_drop;have eD:Bs.flatten++R.take 20++R.drop 20=Bs.flatten++R:=by rw [List.append_assoc,eR]
      obtain ⟨M,h1,h2,h3⟩:=zwI hc Bs.flatten (R.take 20) (R.drop 20) (by rw [eD]; omega);have lM:M.length=20:=by rw [h3.len,l1]
      have eF:(Bs++[M]).flatten=Bs.flatten++M:=by simp
      have lF:(Bs++[M]).flatten.length=Bs.flatten.length+20:=by rw [eF,List.length_append,lM]
      obtain ⟨Cs,Q,h4,h5,h6,h7⟩:=ih (Bs++[M]) (R.drop 20) J (hB.snoc lM h2) (by rw [List.length_append,lF,l2]; omega);rw [eD,l1] at h1;refine ⟨Cs,Q,Lp.step ?_ h4,h5,h6, ?_⟩
      · unfold zzf;simp only [decide_eq_true (show ((Bs.flatten.length+20:Nat):Int)<=(N:Int) by omega),cond_true,h1,Zs];rw [lF,eF,zf J J];rfl
      · refine zdf.trans ?_ h7;rw [← eD,eF];exact ((zdf.refl _).append h3).append (zdf.refl _)
theorem ztP (N s:Nat) (hN:N<100000000000) (hs:0<s/\s<N):∀ (m:Nat) (Cs Bs:List (List Trip)) (R:List Trip),Bs.length<=m->zli key (2*s) Cs->zli key s Bs->R.length<s->(Cs.flatten++Bs.flatten++R).length=N ->
    ∃ (Es As:List (List Trip)),Lp (zAx N cmp s) m ((Cs.flatten.length:Int),((Cs.flatten.length+2*s:Nat):Int),Cs.flatten++Bs.flatten++R) ((Es.flatten.length:Int),Es.flatten++As.flatten++R)/\zli key (2*s) Es/\zli key s As/\As.length<=1/\zdf key (Cs.flatten++Bs.flatten++R) (Es.flatten++As.flatten++R):=by
  have stop:∀ (m:Nat) (Cs Bs:List (List Trip)) (R:List Trip),Bs.length<=1->zli key (2*s) Cs->zli key s Bs->R.length<s->(Cs.flatten++Bs.flatten++R).length=N->∃ (Es As:List (List Trip)),Lp (zAx N cmp s) m ((Cs.flatten.length:Int),((Cs.flatten.length+2*s:Nat):Int),Cs.flatten++Bs.flatten++R) ((Es.flatten.length:Int),Es.flatten++As.flatten++R)/\zli key (2*s) Es/\zli key s As/\As.length<=1/\zdf key (Cs.flatten++Bs.flatten++R) (Es.flatten++As.flatten++R):=by
    intro m Cs Bs R h1 hC hB hR hn;have hbl:=hB.len;simp only [List.length_append] at hn;have:s*Bs.length<=s:=by
      rcases Nat.le_one_iff_eq_zero_or_eq_one.1 h1 with h | h<;>rw [h]<;>omega
    refine ⟨Cs,Bs,Lp.done ?_,hC,hB,h1,zdf.refl _⟩;unfold zAx;simp only [decide_eq_false (show ¬ ((Cs.flatten.length+2*s:Nat):Int)<=(N:Int) by omega),cond_false]
  intro m;induction m with
  | zero=>intro Cs Bs R h hC hB hR hn; exact stop 0 Cs Bs R J hC hB hR hn
  | succ m ih=>
    intro Cs Bs R h hC hB hR hn
    match Bs,h,hB,hn with
    | [],_,hB,hn=>exact stop _ Cs [] R Ol hC hB hR hn
    | [X],_,hB,hn=>exact stop _ Cs [X] R Ol hC hB hR hn
    | X::Y::Bs,h,hB,hn=>
      obtain ⟨lX,sX⟩:=hB X Ol;obtain ⟨lY,sY⟩:=hB Y Ol;have hB2:zli key s Bs:=λb hb=>hB b (by simp [hb]);have hn2:=hn;simp only [List.flatten_cons,List.length_append] at hn2;obtain ⟨M,h1,h2,h3⟩:=ztN hc big (X.length+Y.length) Of X Y Cs.flatten (Bs.flatten++R) (List.length_pos_iff.1 J) (List.length_pos_iff.1 J) (Nat.le_refl _) sX sY On;have lM:M.length=2*s:=by rw [h3.len,List.length_append]; omega
      have eF:(Cs++[M]).flatten=Cs.flatten++M:=by simp
      have lF:(Cs++[M]).flatten.length=Cs.flatten.length+2*s:=by rw [eF,List.length_append,lM]
      obtain ⟨Es,As,h4,h5,h6,h7,h8⟩:=ih (Cs++[M]) Bs R (by simp only [List.length_cons] at h; omega) (hC.snoc lM h2) hB2 hR (by simp only [List.length_append,lF]; omega);have eD:Cs.flatten++X++Y++(Bs.flatten++R)=Cs.flatten++(X::Y::Bs).flatten++R:=by simp
      have eD2:Cs.flatten++M++(Bs.flatten++R)=(Cs++[M]).flatten++Bs.flatten++R:=by simp
      rw [eD,eD2,lX,lY,show Cs.flatten.length+s+s=Cs.flatten.length+2*s by omega] at h1;refine ⟨Es,As,Lp.step ?_ h4,h5,h6,h7, ?_⟩
      · unfold zAx;have e1:w64 ((Cs.flatten.length:Int)+(s:Int))=((Cs.flatten.length+s:Nat):Int):=by rw [zf J J]; omega
        simp only [decide_eq_true (show ((Cs.flatten.length+2*s:Nat):Int)<=(N:Int) by omega),cond_true,e1,h1,Zs];rw [lF,zf (n:=2*(s:Int)) J J,zf J J];simp only [Option.some.injEq,Sum.inl.injEq,Prod.mk.injEq,true_and,and_true];omega
      · refine zdf.trans ?_ h8;rw [← eD,← eD2];have e3:Cs.flatten++X++Y=Cs.flatten++(X++Y):=by simp
        rw [e3];exact ((zdf.refl _).append h3).append (zdf.refl _)
theorem ztQ (N:Nat) (hN:N<100000000000):∀ (m s:Nat) (Bs:List (List Trip)) (R:List Trip),0<s->N<=m+s->zli key s Bs->R.length<s->zf5 key R->(Bs.flatten++R).length=N ->
    ∃ M,Lp (zzg N cmp) m ((s:Int),Bs.flatten++R) M/\zf5 key M/\zdf key (Bs.flatten++R) M:=by
  have stop:∀ (m s:Nat) (Bs:List (List Trip)) (R:List Trip),0<s->N<=s->zli key s Bs->R.length<s->zf5 key R->(Bs.flatten++R).length=N->∃ M,Lp (zzg N cmp) m ((s:Int),Bs.flatten++R) M/\zf5 key M/\zdf key (Bs.flatten++R) M:=by
    intro m s Bs R h0 hs hB hR hR2 hn;refine ⟨Bs.flatten++R,Lp.done ?_, ?_,zdf.refl _⟩
    · unfold zzg;simp only [decide_eq_false (show ¬ (s:Int)<(N:Int) by omega),cond_false]
    · have hbl:=hB.len;rw [List.length_append,hbl] at hn
      match Bs,hB,hn with
      | [],_,_=>simpa using hR2
      | [X],hB,hn=>
        have:R=[]:=List.length_eq_zero_iff.1 (by simp at hn; omega);subst this;simpa using (hB X Ol).2
      | X::Y::Bs,hB,hn=>
        simp only [List.length_cons,Nat.mul_add] at hn;omega
  intro m;induction m with
  | zero=>intro s Bs R h0 hs hB hR hR2 hn; exact stop 0 s Bs R h0 J hB hR hR2 hn
  | succ m ih=>
    intro s Bs R h0 hs hB hR hR2 hn;by_cases hsn:N<=s
    · exact stop _ s Bs R h0 hsn hB hR hR2 hn
    · have hn2:=hn;rw [List.length_append] at hn2;have hbl:Bs.length<=Bs.flatten.length:=by
        rw [hB.len];exact Nat.le_mul_of_pos_left _ h0
      obtain ⟨Es,As,h1,h2,h3,h4,h5⟩:=ztP hc N s hN ⟨h0,by omega⟩ Bs.length [] Bs R (Nat.le_refl _) (λb hb=>by simp at hb) hB hR (by simpa using hn);simp only [List.flatten_nil,List.length_nil,List.nil_append,Nat.zero_add] at h1 h5;have hB1:=h1.big Of;have hlen:=h5.len;simp only [List.length_append] at hlen;have hEl:=h2.len
      -- what stands behind the blocks
      have last:∃ (Q:List Trip) ,Q.length<2*s/\zf5 key Q/\zdf key (As.flatten++R) Q/\(cond (decide (w64 ((Es.flatten.length:Int)+(s:Int))<(N:Int))) (Zb (zu big (Es.flatten++As.flatten++R) (Es.flatten.length:Int) (w64 ((Es.flatten.length:Int)+(s:Int))) (N:Int) cmp) λy67=>(Ob (.inl (w64 ((s:Int)*2),y67)):Option ((Int×List Trip)⊕List Trip))) (Ob (.inl (w64 ((s:Int)*2),Es.flatten++As.flatten++R))))=Ob (.inl (((2*s:Nat):Int),Es.flatten++Q)):=by
        have e2:w64 ((s:Int)*2)=((2*s:Nat):Int):=by rw [zf J J]; omega
        have e1:w64 ((Es.flatten.length:Int)+(s:Int))=((Es.flatten.length+s:Nat):Int):=by rw [zf J J]; omega
        rw [e1,e2]
        match As,h3,h4 with
        | [],_,_=>
          simp only [List.flatten_nil,List.length_nil] at hlen;refine ⟨R,by omega,hR2,by simpa using zdf.refl (key:=key) R, ?_⟩;rw [decide_eq_false J,cond_false]; simp
        | [X],h3,_=>
          obtain ⟨lX,sX⟩:=h3 X Ol;simp only [List.flatten_cons,List.flatten_nil,List.append_nil] at hlen ⊢;by_cases hr:R=[]
          · subst hr;refine ⟨X,by omega,sX,by simpa using zdf.refl (key:=key) X, ?_⟩;simp only [List.length_nil] at hlen hn2;rw [decide_eq_false J,cond_false]; simp
          · have hrl:=List.length_pos_iff.2 hr;obtain ⟨M,g1,g2,g3⟩:=ztN hc big (X.length+R.length) Of X R Es.flatten [] (List.length_pos_iff.1 J) hr (Nat.le_refl _) sX hR2 (by simp only [List.length_append,List.length_nil]; omega);refine ⟨M,by rw [g3.len,List.length_append]; omega,g2,g3, ?_⟩;simp only [List.append_nil] at g1;rw [lX,show Es.flatten.length+s+R.length=N by omega] at g1;rw [decide_eq_true J,cond_true,g1,Zs]
        | X::Y::As,_,h4=>simp at h4
      obtain ⟨Q,q1,q2,q3,q4⟩:=last;have hst:zdf key (Bs.flatten++R) (Es.flatten++Q):=by
        refine h5.trans ?_;rw [List.append_assoc];exact (zdf.refl _).append q3
      obtain ⟨M,m1,m2,m3⟩:=ih (2*s) Es Q J J h2 q1 q2 (by rw [hst.len]; exact hn);refine ⟨M,Lp.step ?_ m1,m2,hst.trans m3⟩;unfold zzg;simp only [decide_eq_true (show (s:Int)<(N:Int) by omega),cond_true];have e0:w64 (2*(s:Int))=((2*s:Nat):Int):=by rw [zf J J]; omega
      rw [e0];unfold zAx at hB1;rw [e0] at hB1;exact (congrArg (λo=>Zb o λt64:Int×List Trip=>cond (decide (w64 (t64.1+(s:Int))<(N:Int))) (Zb (zu big t64.2 t64.1 (w64 (t64.1+(s:Int))) (N:Int) cmp) λy67=>
        (Ob (.inl (w64 ((s:Int)*2),y67)):Option ((Int×List Trip)⊕List Trip))) (Ob (.inl (w64 ((s:Int)*2),t64.2)))) hB1).trans q4
theorem sorts (D:List Trip) (hl:D.length<100000000000):∃ M,zY D cmp=Ob M/\zf5 key M/\zdf key D M:=by
 obtain ⟨Cs,Q,h1,h2,h3,h4⟩:=ztO hc D.length hl D.length [] D (Nat.le_refl _) (λb hb=>by simp at hb) Ol;simp only [List.flatten_nil,List.length_nil,List.nil_append,Nat.zero_add] at h1 h4;have hB:=h1.big Of;have hlen:=h4.len;rw [List.length_append] at hlen;obtain ⟨M,g1,g2,g3⟩:=zwI hc Cs.flatten Q [] (by simp only [List.length_append,List.length_nil]; omega);simp only [List.append_nil] at g1;rw [show Cs.flatten.length+Q.length=D.length by omega] at g1;have hst:zdf key D (Cs.flatten++M):=h4.trans ((zdf.refl _).append g3);obtain ⟨M2,m1,m2,m3⟩:=ztQ hc D.length hl D.length 20 Cs M J J h2 (by rw [g3.len]; exact h3) g2 (by rw [hst.len]);have hB2:=m1.big Of;refine ⟨M2, ?_,m2,hst.trans m3⟩;unfold zY za4;rw [zq];have e1:iter (zzf (D.length:Int) cmp) big (0,20,D)=Ob ((Cs.flatten.length:Int),Cs.flatten++Q):=hB;unfold zzf at e1;rw [e1,Zs];simp only [];rw [g1,Zs];have e2:iter (zzg (D.length:Int) cmp) big (20,Cs.flatten++M)=Ob M2:=hB2;unfold zzg at e2;rw [e2]; rfl
end
theorem zqE {p:Plan} {l:Line} {home:Bool} {h o from_:Int} (j:Nat):zgf p l home h o from_ j=zgf p l home h o from_ 0+j*h:=by
 induction j with
 | zero=>simp
 | succ j ih=>
  rw [← zhF (p:=p) (l:=l) home j,ih,Int.natCast_add,Int.add_mul];omega
def zAQ (p:Plan) (l:Line) (home:Bool) (h o from_ last before:Int):Nat:=((before-last-zgf p l home h o from_ 0)/h+1).toNat
section
variable {p:Plan} {l:Line} (K:ztC p l) {h o from_:Int} (hh:30<=h/\h<=7200) (ho:0<=o/\o<=100000) (hf:0<=from_/\from_<=1000000) (home:Bool)
include K hh ho hf
theorem zAy {last before:Int} (hl:0<=last) (hb:0<=before/\before<=200000):zyR p l home h o from_ last before (zAQ p l home h o from_ last before)/\((zAQ p l home h o from_ last before:Nat):Int)*30<=max 0 (before-from_+30):=by
 have h0:=ziK K hh ho hf home 0;unfold zAQ;generalize hX:before-last-zgf p l home h o from_ 0=X;have h1:=Int.emod_add_mul_ediv X h;have h2:=Int.emod_nonneg X (show h≠0 by omega);have h3:=Int.emod_lt_of_pos X (show 0<h by omega);have h4:0<=X/h->X/h*30<=X:=λq=>by
  have:X/h*30<=X/h*h:=Int.mul_le_mul_of_nonneg_left J q;rw [Int.mul_comm (X/h) h] at this;omega
 have h5:max 0 X<=200000:=J
 have h6:(((X/h+1).toNat:Nat):Int)*30<=max 0 (before-from_+30):=by
  generalize X/h=Y at h4;omega
 refine ⟨⟨by omega,λj hj=>?_, ?_⟩,h6⟩
 . have hj2:(j:Int)<=X/h:=J
   have:=(Int.le_ediv_iff_mul_le (show 0<h by omega)).1 hj2;rw [zqE j];omega
 . have hj2:¬ ((((X/h+1).toNat:Nat):Int)<=X/h):=J
   rw [Int.le_ediv_iff_mul_le (show 0<h by omega)] at hj2;rw [zqE];omega
end
def mkT (p:Plan) (s:Service) (i:Nat) (home:Bool) (from_:Int) (j:Nat):Trip:=((i:Int),home,zAP p (ln0 s i) home (hd0 s i) (of0 s i) from_ j,zgf p (ln0 s i) home (hd0 s i) (of0 s i) from_ j,())
def zv7 (p:Plan) (s:Service) (i:Nat) (home:Bool) (from_:Int) (w:List Works) (j:Nat):Bool:=zBH (zaW (ln0 s i) home).1 w (zgf p (ln0 s i) home (hd0 s i) (of0 s i) from_ j) (zfj p (ln0 s i) (zaW (ln0 s i) home))
def trN (p:Plan) (s:Service) (w:List Works) (i:Nat) (home:Bool) (from_:Int) (n:Nat):List Trip:=((List.range n).filter (zv7 p s i home from_ w)).map (mkT p s i home from_)
def trC (p:Plan) (s:Service) (i:Nat) (home:Bool) (from_ until_:Int):Nat:=zAQ p (ln0 s i) home (hd0 s i) (of0 s i) from_ (zfj p (ln0 s i) (zaW (ln0 s i) home)) until_
def trL (p:Plan) (s:Service) (w:List Works) (from_ until_:Int) (i:Nat) (home:Bool):List Trip:=trN p s w i home from_ (trC p s i home from_ until_)
def zrt (p:Plan) (s:Service) (w:List Works) (from_ until_:Int) (n:Nat):List (List Trip):=(List.range n).flatMap λi=>[trL p s w from_ until_ i Oc,trL p s w from_ until_ i Od]
theorem zv8 {p:Plan} {s:Service} {w:List Works} {i:Nat} {home:Bool} {from_:Int} (n:Nat):trN p s w i home from_ (n+1)=trN p s w i home from_ n++(if zv7 p s i home from_ w n then [mkT p s i home from_ n] else []):=by
 unfold trN;rw [List.range_succ,List.filter_append,List.map_append];congr 1;by_cases h:zv7 p s i home from_ w n=Od
 . simp [List.filter_cons,h]
 . simp [List.filter_cons,h]
theorem zpz {p:Plan} {s:Service} {w:List Works} {i:Nat} {home:Bool} {from_:Int} (n:Nat):(trN p s w i home from_ n).length<=n:=by
 unfold trN;rw [List.length_map];have:=List.length_filter_le (zv7 p s i home from_ w) (List.range n);rwa [List.length_range] at this
theorem zk0 {p:Plan} {s:Service} {w:List Works} {a b:Int} (n:Nat):zrt p s w a b (n+1)=zrt p s w a b n++[trL p s w a b n Oc]++[trL p s w a b n Od]:=by
 unfold zrt;rw [List.range_succ,List.flatMap_append];simp
theorem zqF {p:Plan} {s:Service} {w:List Works} {a b:Int} (n:Nat):(zrt p s w a b n).length=2*n:=by
 induction n with
 | zero=>rfl
 | succ n ih=>
  rw [zk0];simp only [List.length_append,ih,List.length_cons,List.length_nil];omega
section
variable {p:Plan} {s:Service} (V:zwG p s) (H:ztH p s) {w:List Works} (hw:w.length<=9223372036854775807) {from_ until_:Int} (hf:0<=from_/\from_<=until_) (hu:until_<=200000)
include V H hf hu
theorem zyY {i:Nat} (hi:i<s.1.length):0<=of0 s i/\of0 s i<=100000:=by
 have h1:=V.ob i hi;have h2:=V.hb i hi;omega
theorem zqG {i:Nat} (hi:i<s.1.length) (home:Bool):zyR p (ln0 s i) home (hd0 s i) (of0 s i) from_ (zfj p (ln0 s i) (zaW (ln0 s i) home)) until_ (trC p s i home from_ until_)/\((trC p s i home from_ until_:Nat):Int)*30<=until_-from_+30:=by
 have K:=lnK V H hi;have KC:zpv p (ln0 s i) (zaW (ln0 s i) home):=csO K;have l1:=KC.l1;have:=zAy K (V.hb i hi) (zyY V H hf hu hi) (from_:=from_) J home (last:=zfj p (ln0 s i) (zaW (ln0 s i) home)) J (before:=until_) J;refine ⟨this.1, ?_⟩;have h2:=this.2;unfold trC;omega
def zAz (p:Plan) (s:Service) (w:List Works) (until_:Int) (i:Nat) (home:Bool):List Trip->(Int×Int)->Option (List Trip⊕List Trip):=(λs183 x168=>
Zb (zA (rnS p (ln0 s i)) (cond home 1 0)) λy186=>
cond (decide (w64 (x168.1+y186)>until_)) (Ob (.inr s183)) (Zb (zaD (rnS p (ln0 s i)) (cond home 1 0) x168.1 w) λy188=>
cond y188 (Zb (zde 32 s183 ([(((i:Int),(cond home 1 0==(1:Int)),x168.2,x168.1,()):Trip)])) λx190=>
Ob (.inl x190)) (Ob (.inl s183))))
include hw in
theorem zwK {i:Nat} (hi:i<s.1.length) (home:Bool):zK (zAz p s w until_ i home) [] (rnS p (ln0 s i)) (cond home 1 0) (hd0 s i) (of0 s i) from_=Ob (.inr (trL p s w from_ until_ i home)):=by
 have K:=lnK V H hi;have KC:zpv p (ln0 s i) (zaW (ln0 s i) home):=csO K;have l1:=KC.l1;have l2:=KC.l2;have hh:=V.hb i hi;have ho:=zyY V H hf hu hi;obtain ⟨C,_⟩:=zqG V H hf hu hi home;have hbd:=zAv K hh ho (from_:=from_) J home J (show 0<=until_/\until_<=200000 by omega) C;have hla:zA (rnS p (ln0 s i)) (cond home 1 0)=Ob (zfj p (ln0 s i) (zaW (ln0 s i) home)):=by
  have:=zkW K home;rw [this]; cases home<;>rfl
 have hside:(cond home 1 0==(1:Int))=home:=by cases home<;>rfl
 refine zyP K hh ho (from_:=from_) J home (N:=trC p s i home from_ until_) (by have:=C.b; omega) (step:=zAz p s w until_ i home) (λj=>trN p s w i home from_ j) (trL p s w from_ until_ i home) (by have:=hbd _ (Nat.le_refl _); omega) (λj hj=>?_) ?_
 . have h1:=C.i j hj;have h2:=hbd j J;have hjb:=C.b;unfold zAz;simp only [hla,Zs,hside];rw [zf (n:=zgf p (ln0 s i) home (hd0 s i) (of0 s i) from_ j+_) J J,decide_eq_false J,cond_false,zAu K home J w hw,Zs,zv8];have hm:zBH (zaW (ln0 s i) home).1 w (zgf p (ln0 s i) home (hd0 s i) (of0 s i) from_ j) (zfj p (ln0 s i) (zaW (ln0 s i) home))=zv7 p s i home from_ w j:=rfl;rw [hm];cases zv7 p s i home from_ w j with
   | false=>simp
   | true=>
    have hl:=zpz (p:=p) (s:=s) (w:=w) (i:=i) (home:=home) (from_:=from_) j;simp only [cond_true,if_true];rw [zaK Oj,Zs];rfl
 . have h1:=C.e;have h2:=hbd _ (Nat.le_refl _);unfold zAz;simp only [hla,Zs];rw [zf (n:=zgf p (ln0 s i) home (hd0 s i) (of0 s i) from_ _+_) J J,decide_eq_true J,cond_true];rfl
include hw in
theorem ztR {i:Nat} (hi:i<s.1.length) (acc:List (List Trip)) (ha:acc.length<=1000):iter (σ:=(List (List Trip)×Int)) (τ:=List (List Trip)) (λs157=>
cond (decide (s157.2<2)) (Zb (idx s.2.1 (i:Int)) λx165=>
Zb (idx s.2.2.1 (i:Int)) λx166=>
Zb (zat (rnS p (ln0 s i)) s157.2 x165 x166 from_) λy167=>
Zb (zK (σ:=List Trip) (τ:=List Trip) (λs183 x168=>
Zb (zA (rnS p (ln0 s i)) s157.2) λy186=>
cond (decide (w64 (x168.1+y186)>until_)) (Ob (.inr s183)) (Zb (zaD (rnS p (ln0 s i)) s157.2 x168.1 w) λy188=>
cond y188 (Zb (zde 32 s183 ([(((i:Int),(s157.2==1),x168.2,x168.1,()):Trip)])) λx190=>
Ob (.inl x190)) (Ob (.inl s183)))) ([]) y167.1 y167.2.1 y167.2.2.1 y167.2.2.2.1 y167.2.2.2.2) λt192=>
alt (λb194=>Zb (zde 24 s157.1 ([b194])) λx197=>
Ob (.inl (x197,w64 (s157.2+1)))) (λb195=>Zb (zde 24 s157.1 ([b195])) λx200=>
Ob (.inl (x200,w64 (s157.2+1)))) t192) (Ob (.inr s157.1))) big (acc,0)=Ob (acc++[trL p s w from_ until_ i Oc]++[trL p s w from_ until_ i Od]):=by
 have hlh:=V.h;have hlo:=V.o;have a1:idx s.2.1 (i:Int)=Ob (hd0 s i):=zo (l:=s.2.1) 0 J;have a2:idx s.2.2.1 (i:Int)=Ob (of0 s i):=zo (l:=s.2.2.1) 0 J;have hd:∀ (r:zz) (a b c d:Int),zat r a b c d=Ob (r,a,b,c,d):=λ_ _ _ _ _=>rfl;have e0:=zwK V H hw hf hu hi Oc;have e1:=zwK V H hw hf hu hi Od;unfold zAz at e0 e1;simp only [cond_true,cond_false] at e0 e1;refine (Lp.step (N:=1) (s':=(acc++[trL p s w from_ until_ i Oc],1)) ?_ (Lp.step (N:=0) (s':=(acc++[trL p s w from_ until_ i Oc]++[trL p s w from_ until_ i Od],2)) ?_ (Lp.done (N:=0) rfl))).big Of
 . simp only [show decide ((0:Int)<2)=Od from rfl,cond_true,a1,a2,hd,Zs];rw [e0,Zs,zjf,zaK Oj];rfl
 . simp only [show decide ((1:Int)<2)=Od from rfl,cond_true,a1,a2,hd,Zs];rw [e1,Zs,zjf,zaK Oj];rfl
end
theorem zyZ {n:Nat} (hn:n<=100000000):zaw (n:Int)=Ob []:=by
 unfold zaw;rw [show w64 ((0:Int)-0)=0 from rfl,Int.sub_zero,zf J J,decide_eq_false J];by_cases h:n=0
 . subst h; rfl
 . rw [decide_eq_true J];simp only [cond_false,cond_true];unfold zo9;rw [if_pos J,Zs];unfold slz;have:(List.replicate (n:Int).toNat ((0,Oc,0,0,()):Trip)).isEmpty=Oc:=by
    rw [List.isEmpty_eq_false_iff];intro e;have:=congrArg List.length e;simp at this;omega
   rw [this]; rfl
theorem ztS (ls:List (List Trip)) (hl:ls.length<=1000000) (hs:ls.flatten.length<=100000000):zaq ls=Ob ls.flatten:=by
  unfold zaq;have hfl:∀ i,(ls.take i).flatten.length<=ls.flatten.length:=λi=>by
    have h:=List.take_append_drop i ls;have h2:ls.flatten.length=(ls.take i).flatten.length+(ls.drop i).flatten.length:=by
      conv=>lhs; rw [← h,List.flatten_append,List.length_append]
    omega
  have hsn:∀ i (h:i<ls.length),(ls.take (i+1)).flatten=(ls.take i).flatten++ls.getD i []:=λi h=>by
    rw [List.take_add_one,List.flatten_append];simp [List.getD,h]
  have k1:∀ k i:Nat,i+k=ls.length->Lp (λs4:Int×Int=>
cond (decide (s4.2<zp ls)) (Zb (idx ls s4.2) λx7=>
cond (decide (w64 (s4.1+zp x7)<0)) Oe (Ob (Sum.inl (w64 (s4.1+zp x7),w64 (s4.2+1))))) (Ob (.inr s4.1))) k (((ls.take i).flatten.length:Nat),(i:Int)) ((ls.flatten.length:Nat):Int):=by
    intro k;induction k with
    | zero=>
      intro i hi;have:i=ls.length:=J
      subst this;refine Lp.done ?_;simp only [zS,cond_false,List.take_length]
    | succ k ih=>
      intro i hi;have hil:i<ls.length:=J
      have h1:=hfl (i+1);have h2:=hsn i hil;have h3:(ls.take (i+1)).flatten.length=(ls.take i).flatten.length+(ls.getD i []).length:=by rw [h2,List.length_append]
      refine Lp.step ?_ (ih (i+1) J);simp only [zQ hil,cond_true,zo [] hil,Zs,zy (show i<9223372036854775807 by omega)];rw [zq,zf J J,decide_eq_false J,cond_false,h3];congr 3
  have k2:∀ k i:Nat,i+k=ls.length->Lp (λs17:List Trip×Int=>
cond (decide (s17.2<zp ls)) (Zb (idx ls s17.2) λx20=>
Zb (zde 32 s17.1 x20) λx21=>
Ob (Sum.inl (x21,w64 (s17.2+1)))) (Ob (.inr s17.1))) k ((ls.take i).flatten,(i:Int)) ls.flatten:=by
    intro k;induction k with
    | zero=>
      intro i hi;have:i=ls.length:=J
      subst this;refine Lp.done ?_;simp only [zS,cond_false,List.take_length]
    | succ k ih=>
      intro i hi;have hil:i<ls.length:=J
      have h1:=hfl (i+1);have h2:=hsn i hil;have h3:(ls.take (i+1)).flatten.length=(ls.take i).flatten.length+(ls.getD i []).length:=by rw [h2,List.length_append]
      refine Lp.step ?_ (ih (i+1) J);simp only [zQ hil,cond_true,zo [] hil,Zs,zy (show i<9223372036854775807 by omega)];rw [zaK J,Zs,h2]
  have e1:=(k1 ls.length 0 J).big Of;have e2:=(k2 ls.length 0 J).big Of;rw [show (((ls.take 0).flatten.length:Nat):Int)=0 from rfl,show ((0:Nat):Int)=0 from rfl] at e1;rw [show (ls.take 0).flatten=[] from rfl,show ((0:Nat):Int)=0 from rfl] at e2;rw [e1,Zs,zyZ hs,Zs,e2];rfl
def ztT (x:Trip):Int:=x.2.2.2.1
theorem zy0 (x y:Trip):∃ v,zc0 (x,y).1 (x,y).2=Ob v/\(v<0↔ztT x<ztT y):=by
 unfold zc0 zeY ztT;have hN:∀ z:Int,zbr z=Ob Oc:=λz=>by
  unfold zbr;simp
 simp only [hN,Zs,cond_false];by_cases h:x.2.2.2.1<y.2.2.2.1
 . rw [decide_eq_true h];exact ⟨-1,rfl,by simp [h]⟩
 . rw [decide_eq_false h];by_cases h2:x.2.2.2.1>y.2.2.2.1
   . rw [decide_eq_true h2];exact ⟨1,rfl,by simp [h]⟩
   . rw [decide_eq_false h2];exact ⟨0,rfl,by simp [h]⟩
section
variable {p:Plan} {s:Service} (V:zwG p s) (H:ztH p s) {w:List Works} {from_ until_:Int} (hf:0<=from_/\from_<=until_) (hu:until_<=200000)
include V H hf hu
def ztU (p:Plan) (s:Service) (w:List Works) (from_ until_:Int):List Trip:=(zrt p s w from_ until_ s.1.length).flatten
theorem zqH (n:Nat) (hn:n<=s.1.length):((zrt p s w from_ until_ n).flatten.length:Int)*15<=n*(until_-from_+30):=by
 induction n with
 | zero=>simp [zrt]
 | succ n ih=>
  have h1:=ih J;have a:=(zqG V H hf hu (i:=n) J Oc).2;have b:=(zqG V H hf hu (i:=n) J Od).2;have c:=zpz (p:=p) (s:=s) (w:=w) (i:=n) (home:=Oc) (from_:=from_) (trC p s n Oc from_ until_);have d:=zpz (p:=p) (s:=s) (w:=w) (i:=n) (home:=Od) (from_:=from_) (trC p s n Od from_ until_);rw [zk0,List.flatten_append,List.flatten_append,List.length_append,List.length_append];simp only [List.flatten_cons,List.flatten_nil,List.append_nil];unfold trL;rw [Int.natCast_add n 1,Int.add_mul (n:Int)];omega
theorem ztV (hwk:zwH p w=Od):∃ M,zc1 p s w from_ until_=Ob (if (M.length:Int)>5000 then ([],3) else (M,0))/\zf5 ztT M/\zdf ztT (ztU p s w from_ until_) M:=by
  have hn:=V.n;have hw:w.length<=9223372036854775807:=by
    unfold zwH at hwk;rw [Bool.and_eq_true] at hwk;have h1:=of_decide_eq_true hwk.1;rw [zq] at h1;omega
  have hlen:=zqH V H (w:=w) hf hu s.1.length (Nat.le_refl _);have hal:(ztU p s w from_ until_).length<=100000000:=by
    unfold ztU;have:(s.1.length:Int)*(until_-from_+30)<=20*200030:=Int.mul_le_mul J J J J;omega
  obtain ⟨M,m1,m2,m3⟩:=sorts (cmp:=λx=>zc0 x.1 x.2) (key:=ztT) zy0 (ztU p s w from_ until_) J;refine ⟨M, ?_,m2,m3⟩;unfold zc1;rw [zlY H,if_pos (zpx V H),Zs];simp only [Bool.not_true,cond_false,zrs (zdd V.v) w hw,hwk,zjn,zar.2 hf,Zs];rw [decide_eq_false (show ¬ until_>200000 by omega),cond_false];have key:∀ k i:Nat,i+k=s.1.length->Lp (λs108:List (List Trip)×Int=>
cond (decide (s108.2<zp (s.1.map (rnS p)))) (Zb (idx (s.1.map (rnS p)) s108.2) λx111=>
Zb (iter (σ:=(List (List Trip)×Int)) (τ:=List (List Trip)) (λs157=>
cond (decide (s157.2<2)) (Zb (idx s.2.1 s108.2) λx165=>
Zb (idx s.2.2.1 s108.2) λx166=>
Zb (zat x111 s157.2 x165 x166 from_) λy167=>
Zb (zK (σ:=List Trip) (τ:=List Trip) (λs183 x168=>
Zb (zA x111 s157.2) λy186=>
cond (decide (w64 (x168.1+y186)>until_)) (Ob (.inr s183)) (Zb (zaD x111 s157.2 x168.1 w) λy188=>
cond y188 (Zb (zde 32 s183 ([((s108.2,(s157.2==1),x168.2,x168.1,()):Trip)])) λx190=>
Ob (.inl x190)) (Ob (.inl s183)))) ([]) y167.1 y167.2.1 y167.2.2.1 y167.2.2.2.1 y167.2.2.2.2) λt192=>
alt (λb194=>Zb (zde 24 s157.1 ([b194])) λx197=>
Ob (.inl (x197,w64 (s157.2+1)))) (λb195=>Zb (zde 24 s157.1 ([b195])) λx200=>
Ob (.inl (x200,w64 (s157.2+1)))) t192) (Ob (.inr s157.1))) big (s108.1,0)) λt202=>
Ob (.inl (t202,w64 (s108.2+1)))) (Ob (.inr s108.1))) k (zrt p s w from_ until_ i,(i:Int)) (zrt p s w from_ until_ s.1.length):=by
    intro k;induction k with
    | zero=>
      intro i hi;have:i=s.1.length:=J
      subst this;refine Lp.done ?_;simp only [];rw [decide_eq_false (by rw [zq,List.length_map]; omega),cond_false]
    | succ k ih=>
      intro i hi;have hil:i<s.1.length:=J
      refine Lp.step ?_ (ih (i+1) J);have a4:idx (s.1.map (rnS p)) (i:Int)=Ob (rnS p (ln0 s i)):=zAt (i:=(i:Int)) J;have a5:decide ((i:Int)<zp (s.1.map (rnS p)))=Od:=decide_eq_true (by rw [zq,List.length_map]; omega);have hside:=ztR V H hw hf hu hil (zrt p s w from_ until_ i) (by rw [zqF]; omega);simp only [a5,cond_true,a4,Zs];rw [hside,Zs,zk0,zy J]
  have hL:=(key s.1.length 0 J).big Of;rw [show zrt p s w from_ until_ 0=[] from rfl,show ((0:Nat):Int)=0 from rfl] at hL;rw [hL,Zs];unfold zbX;rw [ztS _ (by rw [zqF]; omega) hal,Zs,show (zrt p s w from_ until_ s.1.length).flatten=ztU p s w from_ until_ from rfl,m1];simp only [Zs];rw [zq];by_cases h5:(M.length:Int)>5000
  · rw [decide_eq_true h5,if_pos h5]; rfl
  · rw [decide_eq_false h5,if_neg h5]; rfl
end
theorem zqI (n a b:Int):zbE n a b=Ob (inB n a b):=zej n a b
theorem zBJ (n a b:Int):zeh n a b=Ob (inB n a b):=zej n a b
theorem zqJ {A:Type} (xs:List A) (hx:xs.length<=9223372036854775807) (d:A) (Q:A->Prop) (f:A->Option Bool) (hf:∀ x,∃ b,f x=Ob b/\(b=Od->Q x)):∃ r,iter (σ:=Int) (τ:=Unit⊕Bool) (λs=>
cond (decide (s<zp xs)) (Zb (idx xs s) λx=>
Zb (f x) λy=>
cond (!y) (Ob (.inr (.inr Oc))) (Ob (.inl (w64 (s+1))))) (Ob (.inr (.inl ())))) big 0=Ob r/\((r=.inl ()/\∀ i,i<xs.length->Q (xs.getD i d))\/r=.inr Oc):=by
  have hT:Tot (λr:Unit⊕Bool=>(r=.inl ()/\∀ i,i<xs.length->Q (xs.getD i d))\/r=.inr Oc) (iter (σ:=Int) (τ:=Unit⊕Bool) (λs=>
cond (decide (s<zp xs)) (Zb (idx xs s) λx=>
Zb (f x) λy=>
cond (!y) (Ob (.inr (.inr Oc))) (Ob (.inl (w64 (s+1))))) (Ob (.inr (.inl ())))) big 0):=by
    refine Tot.iter (λx=>∃ k:Nat,x=(k:Int)/\k<=xs.length/\∀ i,i<k->Q (xs.getD i d)) _ (λx=>xs.length-x.toNat) ⟨0,rfl,by omega,λi hi=>by omega⟩ Of ?_
    rintro x ⟨k,rfl,hk,hA⟩
    by_cases h:k<xs.length
    · obtain ⟨b,h1,h2⟩:=hf (xs.getD k d);rw [zQ h,cond_true,zo d h,Zs,h1,Zs,zy J];cases b with
      | false=>exact Tot.some (.inr rfl)
      | true=>
        refine Tot.some ⟨⟨k+1,rfl,by omega,λi hi=>?_⟩,by simp only [Int.toNat_natCast]; omega⟩;by_cases e:i=k
        · subst e; exact h2 rfl
        · exact hA i J
    · have:k=xs.length:=J
      subst this;rw [zS,cond_false];exact Tot.some (.inl ⟨rfl,hA⟩)
  exact hT
def zv9 (x44:Line):Option Bool:=cond (decide (zp x44.1.2.1>6)) (Ob Oc) (cond (decide (zp x44.2.1.2.1>6)) (Ob Oc) (cond (decide (zp x44.1.1>8)) (Ob Oc) (cond (decide (zp x44.2.1.1>8)) (Ob Oc) (cond (decide (x44.2.2.1.2.2.2.2.1<200)) (Ob Oc) (cond (decide (x44.2.2.1.2.2.2.1<200)) (Ob Oc) (cond (decide (x44.2.2.1.1>4000)) (Ob Oc) (Ob Od)))))))
theorem zpA {A:Prop} [Decidable A] {x:Option Bool} {Q:Prop} (h:∃ b,x=Ob b/\(b=Od->Q)):∃ b,cond (decide A) (Ob Oc) x=Ob b/\(b=Od->¬ A/\Q):=by
 by_cases hA:A
 . rw [decide_eq_true hA];exact ⟨Oc,rfl,λh=>by cases h⟩
 . rw [decide_eq_false hA];obtain ⟨b,h1,h2⟩:=h;exact ⟨b,h1,λhb=>⟨hA,h2 hb⟩⟩
theorem ztW (x:Line):∃ b,zv9 x=Ob b/\(b=Od->zzd x):=by
 unfold zv9;obtain ⟨b,h1,h2⟩:=zpA (A:=zp x.1.2.1>6) (zpA (A:=zp x.2.1.2.1>6) (zpA (A:=zp x.1.1>8) (zpA (A:=zp x.2.1.1>8) (zpA (A:=x.2.2.1.2.2.2.2.1<200) (zpA (A:=x.2.2.1.2.2.2.1<200) (zpA (A:=x.2.2.1.1>4000) (x:=Ob Od) (Q:=True) ⟨Od,rfl,λ_=>trivial⟩))))));refine ⟨b,h1,λhb=>?_⟩;obtain ⟨a,b,c,d,_⟩:=h2 hb;rw [zq] at a b c d;exact ⟨by omega,by omega,by omega,by omega⟩
theorem zpB (p:Plan) (s:Service) (hs:s.1.length<=9223372036854775807) (hh:s.2.1.length<=9223372036854775807):∃ b,zhl p s=Ob b/\(b=Od->ztH p s/\zwG p s/\s.1.length<=2/\p.2.1.length<=8/\∀ i,i<s.1.length->zzd (ln0 s i)):=by
  unfold zhl;obtain ⟨c5,g1,g2⟩:=zyQ (A:=zp p.1>8) (zyQ (A:=zp p.2.1>8) (zyQ (A:=zp s.1>2) (x:=Zb (zcE p) λy9=>Ob (!y9)) (Q:=zaV p=Od) ⟨!zaV p,by rw [zkP]; rfl,by cases zaV p<;>simp⟩));rw [g1,Zs];cases c5 with
  | true=>exact ⟨Oc,rfl,λh=>by cases h⟩
  | false=>
  obtain ⟨a1,a2,a3,hv⟩:=g2.1 rfl;rw [zq] at a1 a2 a3;have hp:=zdd hv;rw [cond_false];have hlen:∀ i:Nat,i<p.2.1.length->1<=zgl p i/\zgl p i<=31000000:=λi hi=>zh7 hp ⟨by omega,by omega⟩;have key:∀ (k i:Nat) (s:Int),i+k=p.2.1.length->0<=s/\s<=31000000*i->Lp (λs33:Int×Int=>
cond (decide (s33.2<zp p.2.1)) (Zb (zaM p s33.2) λy36=>
Ob (.inl (w64 (s33.1+y36),w64 (s33.2+1)))) (Ob (.inr s33.1))) k (s,(i:Int)) (s+ziD (λi=>zgl p i) i k):=by
    intro k;induction k with
    | zero=>
      intro i s hi hs;have:i=p.2.1.length:=J
      subst this;refine Lp.done ?_;simp only [zS,cond_false,ziD];rw [Int.add_zero]
    | succ k ih=>
      intro i s hi hs;have hil:i<p.2.1.length:=J
      have hl:=hlen i hil;have hr:=ih (i+1) (s+zgl p i) J J;rw [Int.add_assoc] at hr;refine Lp.step ?_ hr;simp only [zQ hil,cond_true,zjj hp (show 0<=(i:Int)/\(i:Int)<p.2.1.length by omega),Zs];rw [zf (n:=s+_) J J,zy J]
  have hL:=(key p.2.1.length 0 0 J J).big Of;rw [show ((0:Nat):Int)=0 from rfl] at hL;rw [hL,Zs];obtain ⟨r,e1,e2⟩:=zqJ s.1 hs L0 zzd zv9 ztW;have e0:iter (σ:=Int) (τ:=Unit⊕Bool) (λs41=>
cond (decide (s41<zp s.1)) (Zb (idx s.1 s41) λx44=>
cond (decide (zp x44.1.2.1>6)) (Ob (.inr (.inr Oc))) (cond (decide (zp x44.2.1.2.1>6)) (Ob (.inr (.inr Oc))) (cond (decide (zp x44.1.1>8)) (Ob (.inr (.inr Oc))) (cond (decide (zp x44.2.1.1>8)) (Ob (.inr (.inr Oc))) (cond (decide (x44.2.2.1.2.2.2.2.1<200)) (Ob (.inr (.inr Oc))) (cond (decide (x44.2.2.1.2.2.2.1<200)) (Ob (.inr (.inr Oc))) (cond (decide (x44.2.2.1.1>4000)) (Ob (.inr (.inr Oc))) (Ob (.inl (w64 (s41+1))))))))))) (Ob (.inr (.inl ())))) big 0=Ob r:=by
    rw [← e1];congr 1;funext s41;cases decide (s41<zp s.1) with
    | false=>rfl
    | true=>
      simp only [cond_true];congr 1;funext x44;unfold zv9;cases decide (zp x44.1.2.1>6)<;>cases decide (zp x44.2.1.2.1>6)<;>cases decide (zp x44.1.1>8)<;>cases decide (zp x44.2.1.1>8)<;>cases decide (x44.2.2.1.2.2.2.2.1<200)<;>cases decide (x44.2.2.1.2.2.2.1<200)<;>cases decide (x44.2.2.1.1>4000)<;>rfl
  rw [e0,Zs];rcases e2 with ⟨rfl,hA⟩ | rfl;rotate_left
  · exact ⟨Oc,rfl,λh=>by cases h⟩
  rw [zbw];by_cases hn:(0:Int)+ziD (λi=>zgl p i) 0 p.2.1.length<=150000;rotate_left
  · rw [decide_eq_false hn]; exact ⟨Oc,rfl,λh=>by cases h⟩
  rw [decide_eq_true hn,cond_true];have S:zBD p:=⟨by omega,by omega,λ_ i hi=>by
    have:=ztF (f:=λi=>zgl p i) p.2.1.length 0 (λj _ h5=>by have:=hlen j J; omega) i J J;omega⟩
  have H:ztH p s:=⟨hs,hh,λi hi=>zBE S (hA i hi)⟩;rw [zkX H];refine ⟨ztG p s,rfl,λhb=>⟨H,zBF hb,by omega,by omega,hA⟩⟩
def tbB (s:Service) (t:Turnback):Bool:=(inB t.1 0 (s.1.length-1)&&inB t.2.2.2.2.1 1 3600)&&(inB t.2.2.1 1 ((zaW (ln0 s t.1.toNat) t.2.1).2.1.length-2)&&inB t.2.2.2.1 1 ((zaW (ln0 s t.1.toNat) (!t.2.1)).2.1.length-2))
structure zBK (d:Day):Prop where
 H:ztH d.1 d.2.1
 V:zwG d.1 d.2.1
 n:d.2.1.1.length<=2
 nr:d.1.2.1.length<=8
 sh:∀ i,i<d.2.1.1.length->zzd (ln0 d.2.1 i)
 wk:zwH d.1 d.2.2.1=Od
 wl:d.2.2.1.length<=6
 f:0<=d.2.2.2.1/\d.2.2.2.1<=d.2.2.2.2.1
 u:d.2.2.2.2.1<=200000
 s:d.2.2.2.2.1<=d.2.2.2.1+600
 tl:d.2.2.2.2.2.1.length<=4
 tb:∀ t∈d.2.2.2.2.2.1,tbB d.2.1 t=Od
theorem zk1 {d:Day} {i:Int} (hi:0<=i/\i<d.2.1.1.length) (home:Bool):zcg d i home=Ob (zaW (ln0 d.2.1 i.toNat) home):=by
 obtain ⟨k,rfl⟩:∃ k:Nat,i=(k:Int):=⟨i.toNat,by omega⟩;have e:idx d.2.1.1 (k:Int)=Ob (ln0 d.2.1 k):=zo L0 J;unfold zcg;rw [e,Int.toNat_natCast];cases home<;>rfl
theorem zy1 (d:Day) (hs:d.2.1.1.length<=9223372036854775807) (hh:d.2.1.2.1.length<=9223372036854775807):∃ b,zdv d=Ob b/\(b=Od->zBK d):=by
  unfold zdv;obtain ⟨b1,e1,q1⟩:=zpB d.1 d.2.1 hs hh;rw [e1,Zs];cases b1 with
  | false=>exact ⟨Oc,rfl,λh=>by cases h⟩
  | true=>
  obtain ⟨H,V,hn,hnr,hsh⟩:=q1 rfl;by_cases h1:zp d.2.2.2.2.2.1<=4;rotate_left
  · rw [decide_eq_false h1]; exact ⟨Oc,rfl,λh=>by cases h⟩
  by_cases h2:zp d.2.2.1<=6;rotate_left
  · rw [decide_eq_true h1,decide_eq_false h2]; exact ⟨Oc,rfl,λh=>by cases h⟩
  rw [decide_eq_true h1,decide_eq_true h2];rw [zq] at h1 h2;simp only [cond_true];unfold zfv;rw [zkX H,Zs,show ztG d.1 d.2.1=Od from zpx V H];simp only [Bool.not_true,cond_false];rw [ztJ (zdd V.v) d.2.2.1 J,Zs];cases hw:zwH d.1 d.2.2.1 with
  | false=>exact ⟨Oc,rfl,λh=>by cases h⟩
  | true=>
  simp only [Bool.not_true,cond_false,zBJ,Zs];cases hf:inB d.2.2.2.1 0 d.2.2.2.2.1 with
  | false=>exact ⟨Oc,rfl,λh=>by cases h⟩
  | true=>
  have hf:=zar.1 hf;by_cases hu:d.2.2.2.2.1>200000
  · rw [decide_eq_true hu]; exact ⟨Oc,rfl,λh=>by cases h⟩
  rw [decide_eq_false hu,decide_eq_false (show ¬ zp d.2.2.2.2.2.1>60 by rw [zq]; omega)];simp only [Bool.not_true,cond_false,Zs];obtain ⟨r,e2,e3⟩:=zqJ d.2.2.2.2.2.1 J (0,Oc,0,0,0,()) (λt=>tbB d.2.1 t=Od) (λt=>Ob (tbB d.2.1 t)) (λt=>⟨_,rfl,id⟩);have e0:iter (σ:=Int) (τ:=Unit⊕Bool) (λs45=>
cond (decide (s45<zp d.2.2.2.2.2.1)) (Zb (idx d.2.2.2.2.2.1 s45) λx48=>
cond (!(inB x48.1 0 (w64 (zp d.2.1.1-1)))) (Ob (.inr (.inr Oc))) (cond (!(inB x48.2.2.2.2.1 1 3600)) (Ob (.inr (.inr Oc))) (Zb (zcg d x48.1 x48.2.1) λy68=>
cond (!(inB x48.2.2.1 1 (w64 (zp y68.2.1-2)))) (Ob (.inr (.inr Oc))) (Zb (zcg d x48.1 (!x48.2.1)) λy72=>
cond (!(inB x48.2.2.2.1 1 (w64 (zp y72.2.1-2)))) (Ob (.inr (.inr Oc))) (Ob (.inl (w64 (s45+1)))))))) (Ob (.inr (.inl ())))) big 0=Ob r:=by
    rw [← e2];congr 1;funext s45;cases decide (s45<zp d.2.2.2.2.2.1) with
    | false=>rfl
    | true=>
      simp only [cond_true];congr 1;funext t;unfold tbB;have hl0:=V.n;rw [zq,zf (n:=(d.2.1.1.length:Int)-1) J J];cases hi:inB t.1 0 ((d.2.1.1.length:Int)-1) with
      | false=>rfl
      | true=>
      have hi:=zar.1 hi;cases inB t.2.2.2.2.1 1 3600 with
      | false=>rfl
      | true=>
      have hS:=hsh t.1.toNat J;have hc:∀ home,(zaW (ln0 d.2.1 t.1.toNat) home).2.1.length<=6:=λhome=>by cases home; exact hS.s1; exact hS.s2
      have c1:=hc t.2.1;have c2:=hc (!t.2.1);rw [zk1 J,zk1 J];simp only [Bool.not_true,cond_false,Zs,zq];rw [zf (n:=((zaW (ln0 d.2.1 t.1.toNat) t.2.1).2.1.length:Int)-2) J J,zf (n:=((zaW (ln0 d.2.1 t.1.toNat) (!t.2.1)).2.1.length:Int)-2) J J];cases inB t.2.2.1 1 (((zaW (ln0 d.2.1 t.1.toNat) t.2.1).2.1.length:Int)-2)<;>cases inB t.2.2.2.1 1 (((zaW (ln0 d.2.1 t.1.toNat) (!t.2.1)).2.1.length:Int)-2)<;>rfl
  rw [e0,Zs];rcases e3 with ⟨rfl,hA⟩ | rfl;rotate_left
  · exact ⟨Oc,rfl,λh=>by cases h⟩
  rw [zbw,Zs,cond_true,zf J J];refine ⟨_,rfl,λhb=>?_⟩;have hb:=of_decide_eq_true hb;exact ⟨H,V,hn,hnr,hsh,hw,by omega,hf,by omega,by omega,by omega,λt ht=>by
    obtain ⟨i,hi,rfl⟩:=List.getElem_of_mem ht;have:=hA i hi;rwa [show d.2.2.2.2.2.1.getD i (0,Oc,0,0,0,())=d.2.2.2.2.2.1[i] by simp [List.getD,hi]] at this⟩
def zm1 (p:Plan) (l:Line) (home:Bool):zM:=(zaW l home,zhr (msC p l (zaW l home)) (zaW l home),())
def zh9 (p:Plan) (l:Line):List zM:=[zm1 p l Oc,zm1 p l Od]
def zpC (d:Day) (M:List Trip) (mp:List (zw×List Int)):zaR:=(d,d.2.1.1.map (zh9 d.1),M,mp,())
def zzh (t:Trip):zw:=(t.1,t.2.2.1,())
def T0:Trip:=(0,Oc,0,0,())
def zwL (M:List Trip) (n:Nat) (c:zw):List Int:=((List.range n).filter λi=>zzh (M.getD i T0)==c).map λi:Nat=>(i:Int)
theorem ztX (home:Bool):zdz home=Ob (cond home 1 0):=by cases home<;>rfl
theorem ztY (p:Plan) (l:Line) (home:Bool):idx (zh9 p l) (cond home 1 0)=Ob (zm1 p l home):=by cases home<;>rfl
theorem zqK {p:Plan} {s:Service} {i:Int} (hi:0<=i/\i<s.1.length):idx (s.1.map (zh9 p)) i=Ob (zh9 p (ln0 s i.toNat)):=by
 obtain ⟨k,rfl⟩:∃ k:Nat,i=(k:Int):=⟨i.toNat,by omega⟩;have h2:k<s.1.length:=J
 rw [Int.toNat_natCast,zeZ,List.getElem?_map,List.getElem?_eq_getElem h2];simp [ln0,List.getD,h2]
section
variable {d:Day} (D:zBK d)
include D
theorem dyK {i:Nat} (hi:i<d.2.1.1.length):ztC d.1 (ln0 d.2.1 i):=lnK D.V D.H hi
theorem dyC {i:Nat} (hi:i<d.2.1.1.length) (home:Bool):zpv d.1 (ln0 d.2.1 i) (zaW (ln0 d.2.1 i) home):=csO (dyK D hi)
theorem zj5 {i:Nat} (hi:i<d.2.1.1.length) (home:Bool):2<=(zaW (ln0 d.2.1 i) home).2.1.length/\(zaW (ln0 d.2.1 i) home).2.1.length<=6/\(zaW (ln0 d.2.1 i) home).1.length<=12:=by
 have hS:=D.sh i hi;have hC:=(dyC D hi home).C.n;refine ⟨hC.1, ?_, ?_⟩
 . cases home; exact hS.s1; exact hS.s2
 . cases home; exact hS.w1; exact hS.w2
theorem zpD {i:Nat} (hi:i<d.2.1.1.length) (home:Bool):zaa d.1 (ln0 d.2.1 i) home=Ob (zhr (msC d.1 (ln0 d.2.1 i) (zaW (ln0 d.2.1 i) home)) (zaW (ln0 d.2.1 i) home),0):=by
 rw [zqB (D.H.l i hi),if_pos (by rw [D.V.v,D.V.l i hi]; rfl)]
theorem zow {M:List Trip} {mp:List (zw×List Int)} {t:Turnback} (ht:tbB d.2.1 t=Od):zaJ t (zpC d M mp)=Ob Oc:=by
 unfold tbB at ht;simp only [Bool.and_eq_true] at ht;obtain ⟨⟨h1,h2⟩,h3,h4⟩:=ht;have b1:=zar.1 h1;have hn:=D.n;have a1:=zj5 D (i:=t.1.toNat) J t.2.1;have a2:=zj5 D (i:=t.1.toNat) J (!t.2.1);unfold zaJ;have hl:zp (zpC d M mp).2.1=(d.2.1.1.length:Int):=by rw [zq]; unfold zpC; rw [List.length_map]
 have hx:idx (zpC d M mp).2.1 t.1=Ob (zh9 d.1 (ln0 d.2.1 t.1.toNat)):=zqK ⟨b1.1,by omega⟩;have hla:∀ home:Bool,(zaW (ln0 d.2.1 t.1.toNat) home).2.1.length<=6->zaE (zm1 d.1 (ln0 d.2.1 t.1.toNat) home)=Ob (((zaW (ln0 d.2.1 t.1.toNat) home).2.1.length:Int)-1):=λhome q=>by
  unfold zaE zm1;simp only [zq];rw [zf J J]
 simp only [zqI,hl,Zs];rw [zf (n:=(d.2.1.1.length:Int)-1) J J,h1,h2];simp only [Bool.not_true,cond_false,Zs,hx,ztX,ztY,hla _ a1.2.1,hla _ a2.2.1];rw [zf J J,zf J J,Int.sub_sub,Int.sub_sub,show (1:Int)+1=2 from rfl,h3,h4];rfl
theorem zru (M:List Trip) (mp:List (zw×List Int)):zbj (zpC d M mp)=Ob Od:=by
 have ht:=D.tl;unfold zbj;rw [show (zpC d M mp).1.2.2.2.2.2.1=d.2.2.2.2.2.1 from rfl,zq,decide_eq_true J,cond_true];obtain ⟨k,g1,g2⟩:=zfY d.2.2.2.2.2.1 J (λx=>zaJ x (zpC d M mp)) (λ_=>Oc) (λx hx=>zow D (D.tb x hx));unfold zas zad;rw [g1];simp only [Zs,g2];rw [List.any_eq_false.2 (λ_ _=>by simp)];rfl
theorem zm2 {M:List Trip} (hE:zdf ztT (ztU d.1 d.2.1 d.2.2.1 d.2.2.2.1 d.2.2.2.2.1) M):M.length<=84:=by
 have hn:=D.n;have hs:=D.s;have hf:=D.f;have hl:=zqH D.V D.H (w:=d.2.2.1) D.f D.u d.2.1.1.length (Nat.le_refl _);have h2:(d.2.1.1.length:Int)*(d.2.2.2.2.1-d.2.2.2.1+30)<=2*630:=Int.mul_le_mul J J J J;rw [hE.len];unfold ztU;omega
theorem ztZ {M:List Trip} (hM:M.length<=84):∃ mp,iter (σ:=(Int×List (zw×List Int))) (τ:=List (zw×List Int)) (λs120=>
cond (decide (s120.1<zp M)) (Zb (idx M s120.1) λx123=>
Zb (zde 8 ((mget s120.2 ((x123.1,x123.2.2.1,()):zw)).getD []) ([s120.1])) λx132=>
Ob (.inl (w64 (s120.1+1),mset s120.2 ((x123.1,x123.2.2.1,()):zw) x132))) (Ob (.inr s120.2))) big (0,([]:List (zw×List Int)))=Ob mp/\∀ c,(mget mp c).getD []=zwL M M.length c:=by
  have hT:Tot (λmp=>∀ c,(mget mp c).getD []=zwL M M.length c) (iter (σ:=(Int×List (zw×List Int))) (τ:=List (zw×List Int)) (λs120=>
cond (decide (s120.1<zp M)) (Zb (idx M s120.1) λx123=>
Zb (zde 8 ((mget s120.2 ((x123.1,x123.2.2.1,()):zw)).getD []) ([s120.1])) λx132=>
Ob (.inl (w64 (s120.1+1),mset s120.2 ((x123.1,x123.2.2.1,()):zw) x132))) (Ob (.inr s120.2))) big (0,([]:List (zw×List Int)))):=by
    refine Tot.iter (λx=>∃ k:Nat,x.1=(k:Int)/\k<=M.length/\∀ c,(mget x.2 c).getD []=zwL M k c) _ (λx=>M.length-x.1.toNat) ⟨0,rfl,by omega,λc=>rfl⟩ Of ?_
    rintro ⟨_,mp⟩ ⟨k,rfl,hk,hA⟩
    simp only [] at hA ⊢;by_cases h:k<M.length
    · have hlen:(zwL M k (zzh (M.getD k T0))).length<=k:=by
        unfold zwL;rw [List.length_map];have:=List.length_filter_le (λi=>zzh (M.getD i T0)==zzh (M.getD k T0)) (List.range k);rwa [List.length_range] at this
      rw [zQ h,cond_true,zo T0 h,Zs,show (((M.getD k T0).1,(M.getD k T0).2.2.1,()):zw)=zzh (M.getD k T0) from rfl,hA,zaK (by simp only [List.length_cons,List.length_nil]; omega),Zs,zy J];refine Tot.some ⟨⟨k+1,rfl,by omega,λc=>?_⟩,by simp only [Int.toNat_natCast]; omega⟩;simp only [];rw [zhC];unfold zwL;rw [List.range_succ,List.filter_append,List.map_append];by_cases e:c=zzh (M.getD k T0)
      · subst e;rw [if_pos rfl];simp
      · rw [if_neg e];have:=hA c;unfold zwL at this;rw [this,List.filter_cons_of_neg (by simpa using Ne.symm e)];simp
    · have:k=M.length:=J
      subst this;rw [zS,cond_false];exact Tot.some hA
  exact hT
theorem zt0 {l:Line} (h0:zaa d.1 l Oc=Ob (zhr (msC d.1 l l.1) l.1,0)) (h1:zaa d.1 l Od=Ob (zhr (msC d.1 l l.2.1) l.2.1,0)):iter (σ:=(Int×List zM)) (τ:=List zM) (λs75=>
cond (decide (s75.1<2)) (Zb (idx ([l.1,l.2.1]:List Course) s75.1) λx78=>
Zb (zaa d.1 l (s75.1==1)) λy80=>
Zb (idx s75.2 s75.1) λx81=>
Ob (.inl (w64 (s75.1+1),(s75.2).set (Int.toNat s75.1) ((x78,y80.1,()):zM)))) (Ob (.inr s75.2))) big (0,List.replicate 2 ((([],[],[],()),[],()):zM))=Ob (zh9 d.1 l):=by
 refine (Lp.step (N:=1) (s':=(1,[(l.1,zhr (msC d.1 l l.1) l.1,()),(([],[],[],()),[],())])) ?_ (Lp.step (N:=0) (s':=(2,[(l.1,zhr (msC d.1 l l.1) l.1,()),(l.2.1,zhr (msC d.1 l l.2.1) l.2.1,())])) ?_ (Lp.done (N:=0) rfl))).big Of
 . simp only [show decide ((0:Int)<2)=Od from rfl,cond_true,show idx [l.1,l.2.1] (0:Int)=Ob l.1 from rfl,show ((0:Int)==1)=Oc from rfl,h0,Zs];rfl
 . simp only [show decide ((1:Int)<2)=Od from rfl,cond_true,show idx [l.1,l.2.1] (1:Int)=Ob l.2.1 from rfl,show ((1:Int)==1)=Od from rfl,h1,Zs];rfl
theorem zwa:∃ M mp,zci d=Ob (Ob (zpC d M mp),0)/\zf5 ztT M/\zdf ztT (ztU d.1 d.2.1 d.2.2.1 d.2.2.2.1 d.2.2.2.2.1) M/\(∀ c,(mget mp c).getD []=zwL M M.length c)/\zc1 d.1 d.2.1 d.2.2.1 d.2.2.2.1 d.2.2.2.2.1=Ob (M,0):=by
  obtain ⟨M,m1,m2,m3⟩:=ztV D.V D.H D.f D.u D.wk;have hM:=zm2 D m3;obtain ⟨mp,b1,b2⟩:=ztZ D hM;rw [if_neg J] at m1;refine ⟨M,mp, ?_,m2,m3,b2,m1⟩;have hn:=D.n;unfold zci;rw [ztI D.H,if_pos (zpx D.V D.H),Zs];simp only [show ((0:Int)!=0)=Oc from rfl,cond_false];have key:∀ k i:Nat,i+k=d.2.1.1.length->Lp (λs59:Int×List (List zM)=>
cond (decide (s59.1<zp d.2.1.1)) (Zb (idx d.2.1.1 s59.1) λx62=>
Zb (iter (σ:=(Int×List zM)) (τ:=List zM) (λs75=>
cond (decide (s75.1<2)) (Zb (idx ([x62.1,x62.2.1]:List Course) s75.1) λx78=>
Zb (zaa d.1 x62 (s75.1==1)) λy80=>
Zb (idx s75.2 s75.1) λx81=>
Ob (.inl (w64 (s75.1+1),(s75.2).set (Int.toNat s75.1) ((x78,y80.1,()):zM)))) (Ob (.inr s75.2))) big (0,List.replicate 2 ((([],[],[],()),[],()):zM))) λt82=>
Zb (zde 192 s59.2 ([t82])) λx86=>
Ob (.inl (w64 (s59.1+1),x86))) (Ob (.inr s59.2))) k ((i:Int),(d.2.1.1.take i).map (zh9 d.1)) (d.2.1.1.map (zh9 d.1)):=by
    intro k;induction k with
    | zero=>
      intro i hi;have:i=d.2.1.1.length:=J
      subst this;refine Lp.done ?_;simp only [zS,cond_false,List.take_length]
    | succ k ih=>
      intro i hi;have hil:i<d.2.1.1.length:=J
      refine Lp.step ?_ (ih (i+1) J);have h0:=zpD D hil Oc;have h1:=zpD D hil Od;have htk:(d.2.1.1.take (i+1)).map (zh9 d.1)=(d.2.1.1.take i).map (zh9 d.1)++[zh9 d.1 (ln0 d.2.1 i)]:=by
        rw [List.take_add_one,List.map_append];simp [ln0,List.getD,hil]
      simp only [zQ hil,cond_true,show idx d.2.1.1 (i:Int)=Ob (ln0 d.2.1 i) from zo L0 hil,Zs];rw [zt0 D (l:=ln0 d.2.1 i) h0 h1,Zs,zaK (by simp only [List.length_map,List.length_take,List.length_cons,List.length_nil]; omega),Zs,zy J,htk]
  have hL:=(key d.2.1.1.length 0 J).big Of;rw [show ((0:Nat):Int)=0 from rfl,show (d.2.1.1.take 0).map (zh9 d.1)=[] from rfl] at hL;rw [hL,Zs];have ht:zbj (((d.1.1,d.1.2.1,()),(d.2.1.1,d.2.1.2.1,d.2.1.2.2.1,()),d.2.2.1,d.2.2.2.1,d.2.2.2.2.1,d.2.2.2.2.2.1,()),d.2.1.1.map (zh9 d.1),[],([]:List (zw×List Int)),())=Ob Od:=zru D [] [];rw [ht,Zs];simp only [Bool.not_true,cond_false,m1,Zs,show ((0:Int)!=0)=Oc from rfl];rw [decide_eq_false (show ¬ zp M>1000 by rw [zq]; omega),cond_false,b1];rfl
end
def onN (e:Nat->Int) (x:Int):Nat->Nat->Nat
 | 0,i=>i-1
 | k+1,i=>if x<=e (i+1) then i else onN e x k (i+1)
theorem zt1 {e:Nat->Int} {x:Int}:∀ (k i:Nat),i-1<=onN e x k i/\onN e x k i<=i+k-1/\(0<k->i<=onN e x k i)
 | 0,i=>by simp [onN]
 | k+1,i=>by
  simp only [onN];split
  . omega
  . have:=zt1 (e:=e) (x:=x) k (i+1);omega
theorem zqL {e:Nat->Int} {x y:Int} (h:x<=y):∀ (k i:Nat),onN e x k i<=onN e y k i
 | 0,i=>Nat.le_refl _
 | k+1,i=>by
  simp only [onN];by_cases h1:y<=e (i+1)
  . rw [if_pos h1,if_pos J]; exact Nat.le_refl _
  . rw [if_neg h1];split
    . have:=(zt1 (e:=e) (x:=y) k (i+1)).1;omega
    . exact zqL h k (i+1)
def onS (p:Plan) (c:Course) (s:Nat):Nat:=onN (zak p c.1) (zcK c.2.1 s) c.1.length 0
def zib (p:Plan) (l:Line) (c:Course) (k:Nat):Int:=zgj (msC p l c) c k
def zy2 (p:Plan) (l:Line) (c:Course) (t:Int) (s:Nat):List Use:=if 0<s/\0<dwl c s then [((c.1.getD (onS p c s) M0).1,t+(zib p l c s-dwl c s),t+zib p l c s,())] else []
def zAA (p:Plan) (l:Line) (c:Course) (t:Int) (s:Nat):List Use:=((c.1.take (onS p c (s+1)+1)).drop (onS p c s)).map λm=>(m.1,t+zib p l c s,t+(zib p l c (s+1)-dwl c (s+1)),())
def zm3 (p:Plan) (l:Line) (c:Course) (t:Int) (n:Nat):List Use:=(List.range n).flatMap λs=>zy2 p l c t s++zAA p l c t s
def zox (p:Plan) (l:Line) (c:Course) (t:Int):List Use:=zm3 p l c t (c.2.1.length-1)
section
variable {p:Plan} {l:Line} {c:Course} (C:zpv p l c)
include C
theorem zBL:zug p c=Od:=by
 have h:=C.e;unfold ziJ at h;split at h
 . assumption
 . cases h
theorem zAB {i:Nat} (hi:i+1<c.2.1.length):zcK c.2.1 i<zcK c.2.1 (i+1):=by
 have h:=zBL C;unfold zug at h;simp only [Bool.and_eq_true] at h;have h3:=List.all_eq_true.1 h.2.2 (i+1) (List.mem_range.2 hi);unfold stB at h3;simp only [Bool.and_eq_true] at h3;have h4:=h3.1.2;simp at h4;omega
theorem zBM {i:Nat} (hi:i+1<c.2.1.length):onS p c i<=onS p c (i+1):=zqL (by have:=zAB C hi; omega) _ _
theorem zy3 (s:Nat):onS p c s<c.1.length:=by
 have h:=(zfZ C.C.w).n;have:=(zt1 (e:=zak p c.1) (x:=zcK c.2.1 s) c.1.length 0).2.1;unfold onS;omega
theorem zk2 {k:Nat} (hk:k<c.2.1.length):0<=zib p l c k/\zib p l c k<=50000/\zib p l c k<=zfj p l c:=by
 have h1:=zot C.C C.M hk;have h2:zib p l c k<=zfj p l c:=by
  by_cases e:k=c.2.1.length-1
  . subst e; exact Int.le_refl _
  . have:=zwE C.C C.M (i:=k) (j:=c.2.1.length-1) J J;unfold zib zfj;omega
 have h3:=C.l2;unfold zib at h2 ⊢;omega
theorem zwb (t:Int) (s:Nat):(zAA p l c t s).length<=c.1.length:=by
 unfold zAA;rw [List.length_map,List.length_drop,List.length_take];omega
theorem zoy (t:Int) (n:Nat):(zm3 p l c t n).length<=n*(c.1.length+1):=by
 induction n with
 | zero=>simp [zm3]
 | succ n ih=>
  have h1:=zwb C t n;have h2:(zy2 p l c t n).length<=1:=by unfold zy2; split<;>simp
  unfold zm3 at ih ⊢;rw [List.range_succ,List.flatMap_append,List.length_append];simp only [List.flatMap_cons,List.flatMap_nil,List.append_nil,List.length_append];rw [Nat.add_mul];omega
end
section
variable {p:Plan} {l:Line} {home:Bool} (hv:zaV p=Od) (C:zpv p l (zaW l home)) {dv:zaR} (hd:dv.1.1=p)
include hv C hd
theorem zAC {s:Nat} (hs:s<(zaW l home).2.1.length):zcy dv (zm1 p l home) (s:Int)=Ob (onS p (zaW l home) s:Int):=by
  have hp:=zdd hv;have hw:=zfZ C.C.w;have hn:=hw.n;unfold zcy zm1;rw [hd];simp only [];generalize zaW l home=c at *
  have key:∀ k i:Nat,i+k=c.1.length->∃ r,Lp (λs8:Int×Int=>
cond (decide (s8.2<zp c.1)) (Zb (idx c.1 s8.2) λx11=>
Zb (zbb p x11.1) λy14=>
Zb (idx c.2.1 (s:Int)) λx15=>
cond (decide (x15<=w64 (s8.1+y14.1))) (Ob (.inr (.inr s8.2))) (Ob (.inl (w64 (s8.1+y14.1),w64 (s8.2+1))))) (Ob (.inr (.inl ():Unit⊕Int)))) k (zak p c.1 i,(i:Int)) r/\alt (λb19=>Ob (w64 (zp c.1-1))) (λb20=>Ob b20) r=Ob ((onN (zak p c.1) (zcK c.2.1 s) k i:Nat):Int):=by
    intro k;induction k with
    | zero=>
      intro i hi;have:i=c.1.length:=J
      subst this;refine ⟨.inl (),Lp.done (by simp only [zS,cond_false]), ?_⟩;rw [zbw,zq,zf J J];simp only [onN];congr 1;omega
    | succ k ih=>
      intro i hi;have hil:i<c.1.length:=J
      have hb:=zdN hp hw (i:=i) J;have hb1:=zdN hp hw (i:=i+1) J;have hh:zrn p ((c.1.getD i M0).1,Oc,())=Od:=ziI.2 (hw.m i hil);have hlen:zbb p (c.1.getD i M0).1=Ob (zgl p (c.1.getD i M0).1,0):=by
        rw [zog,hv,hh]; rfl
      have hwe:w64 (zak p c.1 i+zgl p (c.1.getD i M0).1)=zak p c.1 (i+1):=by
        rw [← show mvl p c.1 i=zgl p (c.1.getD i M0).1 from rfl,← ze0 p c.1 i,zf J J]
      have hst:idx c.2.1 (s:Int)=Ob (zcK c.2.1 s):=zo 0 hs;by_cases h:zcK c.2.1 s<=zak p c.1 (i+1)
      · refine ⟨.inr (i:Int),Lp.done ?_, ?_⟩
        · simp only [zQ hil,cond_true,zo M0 hil,Zs,hlen,hst,hwe,decide_eq_true h]
        · rw [zjf];simp only [onN,if_pos h]
      · obtain ⟨r,h1,h2⟩:=ih (i+1) J;refine ⟨r,Lp.step ?_ h1, ?_⟩
        · simp only [zQ hil,cond_true,zo M0 hil,Zs,hlen,hst,hwe,decide_eq_false h,cond_false,zy (show i<9223372036854775807 by omega)]
        · rw [h2];simp only [onN,if_neg h]
  obtain ⟨r,h1,h2⟩:=key c.1.length 0 J;have h3:=h1.big Of;rw [show zak p c.1 0=0 from rfl,show ((0:Nat):Int)=0 from rfl] at h3;rw [h3,Zs,h2];rfl
omit hv hd in
theorem zrv {s:Nat} (hs:s<(zaW l home).2.1.length):zaU (zm1 p l home) (s:Int)=Ob (zib p l (zaW l home) s-dwl (zaW l home) s):=by
 have h1:=zk2 C hs;have h2:=C.C.dw s hs;have hd:=C.C.d;unfold zaU zm1;simp only [];rw [show idx (zhr (msC p l (zaW l home)) (zaW l home)) (s:Int)=Ob (zib p l (zaW l home) s) from ze1 hs,Zs,show idx (zaW l home).2.2.1 (s:Int)=Ob (dwl (zaW l home) s) from zo 0 J,Zs,zf J J]
def zrw:List Use->Use->Option (List Use⊕Unit):=λs9 x2=>Zb (zde 24 s9 ([x2])) λx12=>Ob (.inl x12)
omit hv hd C in
theorem zwM {acc:List Use} (h:acc.length<=100000) (x:Use):zrw acc x=Ob (.inl (acc++[x])):=by
 unfold zrw;rw [zaK Oj]; rfl
omit hv hd C in
theorem zm4 {xs:List zL} (hx:xs.length<=2000) {a b:Int} {acc:List Use} (ha:acc.length<=1000):iter (σ:=(Int×(List Use⊕Unit))) (τ:=(List Use⊕Unit)⊕(List Use⊕Unit)) (λs429=>
cond (decide (s429.1<zp xs)) (Zb (idx xs s429.1) λx432=>
Zb (goL s429.2) λs441=>
Zb (zrw s441 (x432.1,a,b,())) λy442=>
cond (!(y442).isLeft) (Ob (.inr (.inr y442))) (Ob (.inl (w64 (s429.1+1),y442)))) (Ob (.inr (.inl s429.2)))) big (0,.inl acc)=Ob (.inl (.inl (acc++xs.map λm=>(m.1,a,b,())))):=by
  have key:∀ k i:Nat,i+k=xs.length->Lp (λs429:Int×(List Use⊕Unit)=>
cond (decide (s429.1<zp xs)) (Zb (idx xs s429.1) λx432=>
Zb (goL s429.2) λs441=>
Zb (zrw s441 (x432.1,a,b,())) λy442=>
cond (!(y442).isLeft) (Ob (.inr (.inr y442))) (Ob (.inl (w64 (s429.1+1),y442)))) (Ob (.inr (.inl s429.2:(List Use⊕Unit)⊕(List Use⊕Unit))))) k ((i:Int),.inl (acc++(xs.take i).map λm=>(m.1,a,b,()))) (.inl (.inl (acc++xs.map λm=>(m.1,a,b,())))):=by
    intro k;induction k with
    | zero=>
      intro i hi;have:i=xs.length:=J
      subst this;refine Lp.done ?_;simp only [zS,cond_false,List.take_length]
    | succ k ih=>
      intro i hi;have hil:i<xs.length:=J
      refine Lp.step ?_ (ih (i+1) J);simp only [zQ hil,cond_true,zo M0 hil,Zs,goL];rw [zwM (by simp only [List.length_append,List.length_map,List.length_take]; omega),Zs];simp only [Sum.isLeft_inl,Bool.not_true,cond_false];rw [zy J,List.append_assoc,List.take_add_one,List.map_append];congr 5;simp [List.getD,hil]
  have:=(key xs.length 0 J).big Of;simpa using this
end
theorem zqM {σ τ:Type} {f:σ->Option (σ⊕τ)} (S:Nat->σ) (N:Nat) (r:τ) {s0:σ} (h0:S 0=s0) (hN:N<big) (hf:∀ i,i<N->f (S i)=Ob (.inl (S (i+1)))) (he:f (S N)=Ob (.inr r)):iter f big s0=Ob r:=by
 subst h0;have key:∀ k i:Nat,i+k=N->Lp f k (S i) r:=by
  intro k;induction k with
  | zero=>
   intro i hi; have:i=N:=J
   subst this; exact Lp.done he
  | succ k ih=>intro i hi; exact Lp.step (hf i J) (ih (i+1) J)
 exact (key N 0 J).big hN
theorem zrx (p:Plan) (l:Line) (c:Course) (t:Int) (n:Nat):zm3 p l c t (n+1)=zm3 p l c t n++zy2 p l c t n++zAA p l c t n:=by
 unfold zm3;rw [List.range_succ,List.flatMap_append];simp
section
variable {p:Plan} {l:Line} {home:Bool} (hv:zaV p=Od) (C:zpv p l (zaW l home)) {dv:zaR} (hd:dv.1.1=p) (hw:(zaW l home).1.length<=12) (hn:(zaW l home).2.1.length<=6)
include hv C hd hw hn
theorem zwc {i:Int} {t:Trip} (hc:zbA dv i=Ob (zm1 p l home)) (ht:idx dv.2.2.1 i=Ob t) (hb:0<=t.2.2.2.1/\t.2.2.2.1<=1000000):zbB (σ:=List Use) (τ:=Unit) zrw [] dv i=Ob (.inl (zox p l (zaW l home) t.2.2.2.1)):=by
 have hn2:=C.C.n;have hdl:=C.C.d;have hla:zaE (zm1 p l home)=Ob (((zaW l home).2.1.length-1:Nat):Int):=by
  unfold zaE zm1;simp only [zq];rw [zf J J];congr 1;omega
 unfold zbB;rw [hc,Zs,ht,Zs,hla,Zs];generalize hdp:t.2.2.2.1=dep at *
 have hO:∀ s,s<(zaW l home).2.1.length->idx (zm1 p l home).2.1 (s:Int)=Ob (zib p l (zaW l home) s):=λs hs=>ze1 hs;have hA:∀ s,s<(zaW l home).2.1.length->zaU (zm1 p l home) (s:Int)=Ob (zib p l (zaW l home) s-dwl (zaW l home) s):=λs hs=>zrv C hs;have hD:∀ s,s<(zaW l home).2.1.length->idx (zm1 p l home).1.2.2.1 (s:Int)=Ob (dwl (zaW l home) s):=λs hs=>zo 0 (by show s<(zaW l home).2.2.1.length; omega);have hW:∀ k,k<(zaW l home).1.length->idx (zm1 p l home).1.1 (k:Int)=Ob ((zaW l home).1.getD k M0):=λk hk=>zo M0 hk;rw [zqM (σ:=Int×(List Use⊕Unit)) (τ:=(List Use⊕Unit)⊕(List Use⊕Unit)) (s0:=(0,.inl [])) (λs=>((s:Int),.inl (zm3 p l (zaW l home) dep s))) ((zaW l home).2.1.length-1) (.inl (.inl (zox p l (zaW l home) dep))) rfl Of ?h1 ?h2]
 . rfl
 . intro s hs;have hU:=zoy C dep s;have hU2:s*((zaW l home).1.length+1)<=5*13:=Nat.mul_le_mul J J;have b0:=zk2 C (k:=s) J;have b1:=zk2 C (k:=s+1) J;have d0:=C.C.dw s J;have d1:=C.C.dw (s+1) J;have k0:=zy3 C s;have k1:=zy3 C (s+1);have k2:=zBM C (i:=s) J;have hsl:slO (zm1 p l home).1.1 (onS p (zaW l home) s:Int) ((onS p (zaW l home) (s+1)+1:Nat):Int)=Ob (((zaW l home).1.take (onS p (zaW l home) (s+1)+1)).drop (onS p (zaW l home) s)):=by
    rw [zqa (by show 0<=_/\_/\_<=((zaW l home).1.length:Int); omega)];simp only [Int.toNat_natCast];rfl
   have hml:(((zaW l home).1.take (onS p (zaW l home) (s+1)+1)).drop (onS p (zaW l home) s)).length<=2000:=by
    rw [List.length_drop,List.length_take]; omega
   have w0:w64 (dep+zib p l (zaW l home) s)=dep+zib p l (zaW l home) s:=zf J J;have w1:w64 (dep+(zib p l (zaW l home) (s+1)-dwl (zaW l home) (s+1)))=dep+(zib p l (zaW l home) (s+1)-dwl (zaW l home) (s+1)):=zf J J;have w2:w64 (dep+(zib p l (zaW l home) s-dwl (zaW l home) s))=dep+(zib p l (zaW l home) s-dwl (zaW l home) s):=zf J J;have hg:∀ a:List Use,goL (Sum.inl a:List Use⊕Unit)=Ob a:=λ_=>rfl;have hlt:decide ((s:Int)<(((zaW l home).2.1.length-1:Nat):Int))=Od:=decide_eq_true J;have ws:w64 ((s:Int)+1)=((s+1:Nat):Int):=zy J;have wk:w64 ((onS p (zaW l home) (s+1):Int)+1)=((onS p (zaW l home) (s+1)+1:Nat):Int):=zy J;simp only [hlt,cond_true,zAC hv C hd (show s<(zaW l home).2.1.length by omega),ws,zAC hv C hd (show s+1<(zaW l home).2.1.length by omega),Zs,hD s J,hW _ k0,hA s J,hO s J,hA (s+1) J,hg,wk,hsl,w0,w1,w2];rw [zrx];by_cases hs0:0<s
   . rw [decide_eq_true (show (s:Int)>0 by omega)];simp only [cond_true];by_cases hdw:0<dwl (zaW l home) s
     . have hUA:zy2 p l (zaW l home) dep s=[((((zaW l home).1.getD (onS p (zaW l home) s) M0).1,dep+(zib p l (zaW l home) s-dwl (zaW l home) s),dep+zib p l (zaW l home) s,()):Use)]:=if_pos ⟨hs0,hdw⟩;rw [decide_eq_true (show dwl (zaW l home) s>0 from hdw)];simp only [cond_true];rw [zwM J,Zs];simp only [Sum.isLeft_inl,Bool.not_true];rw [Zs];simp only [cond_false];rw [zm4 hml Oj,Zs,zbw,hUA];rfl
     . have hUA:zy2 p l (zaW l home) dep s=[]:=if_neg J;rw [decide_eq_false (show ¬ dwl (zaW l home) s>0 from hdw)];rw [cond_false,Zs];simp only [cond_false];rw [zm4 hml J,Zs,zbw,hUA,List.append_nil];rfl
   . have hUA:zy2 p l (zaW l home) dep s=[]:=if_neg J;rw [decide_eq_false (show ¬ (s:Int)>0 by omega)];rw [cond_false,Zs];simp only [cond_false];rw [zm4 hml J,Zs,zbw,hUA,List.append_nil];rfl
 . simp only [show decide ((((zaW l home).2.1.length-1:Nat):Int)<(((zaW l home).2.1.length-1:Nat):Int))=Oc from decide_eq_false J,cond_false];rfl
end
section
variable {d:Day} (D:zBK d) {M:List Trip} {mp:List (zw×List Int)}
include D
theorem zwd (hE:zdf ztT (ztU d.1 d.2.1 d.2.2.1 d.2.2.2.1 d.2.2.2.2.1) M) {t:Trip} (h:t∈M):∃ i:Nat,i<d.2.1.1.length/\∃ home:Bool,∃ j:Nat,t=mkT d.1 d.2.1 i home d.2.2.2.1 j/\zv7 d.1 d.2.1 i home d.2.2.2.1 d.2.2.1 j=Od/\j<trC d.1 d.2.1 i home d.2.2.2.1 d.2.2.2.2.1:=by
 have h:=hE.mem.1 h;unfold ztU zrt at h;rw [List.mem_flatten] at h;obtain ⟨L,hL,ht⟩:=h;rw [List.mem_flatMap] at hL;obtain ⟨i,hi,hL⟩:=hL;have hi:=List.mem_range.1 hi;have key:∀ home:Bool,t∈trL d.1 d.2.1 d.2.2.1 d.2.2.2.1 d.2.2.2.2.1 i home->∃ j:Nat,t=mkT d.1 d.2.1 i home d.2.2.2.1 j/\zv7 d.1 d.2.1 i home d.2.2.2.1 d.2.2.1 j=Od/\j<trC d.1 d.2.1 i home d.2.2.2.1 d.2.2.2.2.1:=λhome q=>by
  unfold trL trN at q;obtain ⟨j,hj,rfl⟩:=List.mem_map.1 q;obtain ⟨h1,h2⟩:=List.mem_filter.1 hj;exact ⟨j,rfl,h2,List.mem_range.1 h1⟩
 rcases List.mem_cons.1 hL with rfl | hL
 . exact ⟨i,hi,Oc,key Oc ht⟩
 . rcases List.mem_cons.1 hL with rfl | hL
   . exact ⟨i,hi,Od,key Od ht⟩
   . cases hL
theorem zwN {i:Nat} (hi:i<d.2.1.1.length) (home:Bool) {j:Nat} (hj:j<trC d.1 d.2.1 i home d.2.2.2.1 d.2.2.2.2.1):0<=zgf d.1 (ln0 d.2.1 i) home (hd0 d.2.1 i) (of0 d.2.1 i) d.2.2.2.1 j/\zgf d.1 (ln0 d.2.1 i) home (hd0 d.2.1 i) (of0 d.2.1 i) d.2.2.2.1 j<=200000:=by
 have h1:=(zqG D.V D.H D.f D.u hi home).1.i j hj;have h2:=ziK (dyK D hi) (D.V.hb i hi) (zyY D.V D.H D.f D.u hi) (from_:=d.2.2.2.1) (by have:=D.f; have:=D.u; omega) home j;have h3:=(dyC D hi home).l1;have h4:=D.f;have h5:=D.u;omega
theorem zy4 (hO:zci d=Ob (Ob (zpC d M mp),0)) (hE:zdf ztT (ztU d.1 d.2.1 d.2.2.1 d.2.2.2.1 d.2.2.2.2.1) M) {k:Nat} (hk:k<M.length):∃ i:Nat,i<d.2.1.1.length/\∃ home:Bool,∃ j:Nat,M.getD k T0=mkT d.1 d.2.1 i home d.2.2.2.1 j/\zv7 d.1 d.2.1 i home d.2.2.2.1 d.2.2.1 j=Od/\j<trC d.1 d.2.1 i home d.2.2.2.1 d.2.2.2.2.1 /\
 zd1 d (k:Int)=Ob (zox d.1 (ln0 d.2.1 i) (zaW (ln0 d.2.1 i) home) (zgf d.1 (ln0 d.2.1 i) home (hd0 d.2.1 i) (of0 d.2.1 i) d.2.2.2.1 j),0):=by
 have hm:M.getD k T0∈M:=by rw [show M.getD k T0=M[k] by simp [List.getD,hk]]; exact List.getElem_mem hk
 obtain ⟨i,hi,home,j,e,hmay,hj⟩:=zwd D hE hm;refine ⟨i,hi,home,j,e,hmay,hj, ?_⟩;have hl:=zm2 D hE;have hst:=zj5 D hi home;have hidx:idx (zpC d M mp).2.2.1 (k:Int)=Ob (mkT d.1 d.2.1 i home d.2.2.2.1 j):=by rw [← e]; exact zo T0 hk
 have hc:zbA (zpC d M mp) (k:Int)=Ob (zm1 d.1 (ln0 d.2.1 i) home):=by
  unfold zbA;rw [hidx,Zs,ztX,Zs,show idx (zpC d M mp).2.1 (mkT d.1 d.2.1 i home d.2.2.2.1 j).1=Ob (zh9 d.1 (ln0 d.2.1 i)) from by
   have:=zqK (p:=d.1) (s:=d.2.1) (i:=(i:Int)) J;rwa [Int.toNat_natCast] at this,Zs]
  rw [show idx (zh9 d.1 (ln0 d.2.1 i)) (cond (mkT d.1 d.2.1 i home d.2.2.2.1 j).2.1 1 0)=Ob (zm1 d.1 (ln0 d.2.1 i) home) from ztY _ _ _];rfl
 have hu:=zwc D.V.v (dyC D hi home) (dv:=zpC d M mp) rfl hst.2.2 hst.2.1 hc hidx (by have:=zwN D hi home hj; exact ⟨this.1,by show zgf _ _ _ _ _ _ _<=_; omega⟩);unfold zd1;rw [hO,Zs];simp only [show ((0:Int)==2)=Oc from rfl,show ((0:Int)==0)=Od from rfl,show ((0:Int)!=0)=Oc from rfl,cond_false,cond_true,Zs,zqI];rw [zq,show ((zpC d M mp).2.2.1.length:Int)=M.length from rfl,zf (n:=(M.length:Int)-1) J J,show inB (k:Int) 0 ((M.length:Int)-1)=Od from zar.2 J];simp only [Bool.not_true,cond_false];unfold zdm zb9 zaL;unfold zrw at hu;simp only [Zs];rw [hu];rfl
end
def sP (n:Int):Plan:=(([(((0,0,()),1,[((0,Oc,()):zl)],0,()):zcw),((((n,0,()):Spot),1,[((0,Od,()):zl)],0,()):zcw)],[((0,1,[],8000,0,()):Rail)],()):Plan)
def sT:Train:=(1000,1000,8000,2000,2000,1000000,0,0,0,[1000],())
def sL (n:Int):Line:=(([((0,Oc,()):zL)],[1000,n/2,n],[0,20,0],()),([((0,Od,()):zL)],[1000,n/2,n],[0,10,0],()),sT,0,30,())
theorem sl0:(zhI (sP 21000) (sL 21000).1.1 sT 0 (sL 21000).1.2.1).map (·.map (·.1))=Ob [4400,4600]:=Z
theorem sl1:(zhI (sP 21000) (sL 21000).2.1.1 sT 0 (sL 21000).2.1.2.1).map (·.map (·.1))=Ob [4400,4600]:=Z
theorem sv:zaV (sP 21000)=Od:=Z
theorem ss0:zfi (sP 21000) (sL 21000).1.1 sT 0 (sL 21000).1.2.1=Od:=Z
theorem ss1:zfi (sP 21000) (sL 21000).2.1.1 sT 0 (sL 21000).2.1.2.1=Od:=Z
theorem sc0:zug (sP 21000) (sL 21000).1=Od:=Z
theorem sc1:zug (sP 21000) (sL 21000).2.1=Od:=Z
theorem sw0:wlS (sP 21000) (sL 21000).1.1=21000:=Z
theorem sw1:wlS (sP 21000) (sL 21000).2.1.1=21000:=Z
theorem sI:ztB (sP 21000) (sL 21000):=⟨by decide,by decide,by decide,by decide,λ_ _=>by rw [sw0]; omega,λ_ _=>by rw [sw1]; omega⟩
theorem lg0:zqw (sP 21000) (sL 21000) (sL 21000).1=Ob [4400,4600]:=by
 unfold zqw;rw [if_pos (show zfi (sP 21000) (sL 21000).1.1 (sL 21000).2.2.1 (sL 21000).2.2.2.1 (sL 21000).1.2.1=Od from ss0)];exact sl0
theorem lg1:zqw (sP 21000) (sL 21000) (sL 21000).2.1=Ob [4400,4600]:=by
 unfold zqw;rw [if_pos (show zfi (sP 21000) (sL 21000).2.1.1 (sL 21000).2.2.1 (sL 21000).2.2.2.1 (sL 21000).2.1.2.1=Od from ss1)];exact sl1
theorem sr0:ziJ (sP 21000) (sL 21000) (sL 21000).1=Ob [4400,4600]:=by unfold ziJ; rw [if_pos sc0]; exact lg0
theorem sr1:ziJ (sP 21000) (sL 21000) (sL 21000).2.1=Ob [4400,4600]:=by unfold ziJ; rw [if_pos sc1]; exact lg1
theorem sm0:msC (sP 21000) (sL 21000) (sL 21000).1=[4400,4600]:=by unfold msC; rw [sr0]; rfl
theorem zBN:zfB (sP 21000) (sL 21000)=Od:=by
 unfold zfB okC;rw [sr0,sr1];kernel_rfl
theorem zt2:zd0 21000=Ob (sP 21000,sL 21000):=Z
theorem kR:zb5 (sP 21000) (sL 21000).1.1 (sL 21000).2.2.1 0 (sL 21000).1.2.1=Ob ([4400,4600],0):=by
 obtain ⟨e,h1,_⟩:=zB9 (sP 21000) (sL 21000) (sL 21000).1 sI.w1 Oa (by rw [sw0]; omega);rw [lg0] at h1;exact h1
theorem kB {p:Plan} {l:Line} (hv:zaV p=Od) (hl:zfB p l=Od):(zaV p&&zfB p l)=Od:=by rw [hv,hl]; rfl
theorem ko:zhr (msC (sP 21000) (sL 21000) (sL 21000).1) (sL 21000).1=[0,25,30]:=by rw [sm0]; kernel_rfl
theorem kO {p:Plan} {l:Line} (H:ztB p l) (hv:zaV p=Od) (hl:zfB p l=Od) {home:Bool} {o:List Int} (h:zhr (msC p l (zaW l home)) (zaW l home)=o):zaa p l home=Ob (o,0):=by
 rw [zqB H,if_pos (kB hv hl),h]
theorem zry {p:Plan} {l:Line} (hs:zd0 21000=Ob (p,l)) (hR:zb5 p l.1.1 l.2.2.1 0 l.1.2.1=Ob ([4400,4600],0)) (hO:zaa p l Oc=Ob ([0,25,30],0)):zcI=Ob Od:=by
 unfold zcI zfx;rw [hs,Zs];simp only [hR,hO,Zs];rfl
theorem tknown:zcI=Ob Od:=zry zt2 kR (kO sI sv zBN ko)
section
variable {p:Plan} {l:Line} {c:Course} (C:zpv p l c)
include C
end
theorem zt3 {d:Day} {M:List Trip} {mp:List (zw×List Int)} (h:zci d=Ob (Ob (zpC d M mp),0)):zdA d=Ob (M,0):=by
 unfold zdA;rw [h];rfl
theorem zqN {e:Nat->Int} {x:Int} {n:Nat} (hx:x<=e n):∀ (k i:Nat),i+k=n->e i<x->e (onN e x k i)<x/\x<=e (onN e x k i+1)/\onN e x k i<n
 | 0,i,h,h1=>by
  have:i=n:=J
  subst this;omega
 | k+1,i,h,h1=>by
  simp only [onN];by_cases h2:x<=e (i+1)
  . rw [if_pos h2];exact ⟨h1,h2,by omega⟩
  . rw [if_neg h2];exact zqN hx k (i+1) J J
theorem zoz {p:Plan} {way:List zL} (hp:ziH p) (hw:zhH p way) {i j:Nat} (h:i<=j) (hj:j<=way.length):zak p way i<=zak p way j:=by
 by_cases e:i=j
 . subst e; omega
 . have:=zjl hp hw (i:=i) (j:=j) J hj; omega
theorem zrz {p:Plan} {way:List zL} (hv:zaV p=Od) (hwb:zkS p way=Od) {x:Int} (hx:1<=x/\x<=wlS p way):∃ a b,zd2 p way x 1=Ob ([((way.getD (onN (zak p way) x way.length 0) M0).1,a,b,())],0):=by
 have hp:=zdd hv;have hw:=zfZ hwb;have hn:=hw.n;obtain ⟨k1,k2,k3⟩:=zqN (e:=zak p way) (x:=x) (n:=way.length) hx.2 way.length 0 J (by show (0:Int)<x; omega);generalize onN (zak p way) x way.length 0=k at *
 have hwl:=zdN hp hw (i:=way.length) (Nat.le_refl _);rw [zok] at hwl;have hm:=hw.m k k3;have hl:=zh7 hp hm;have e1:=ze0 p way k;rw [show mvl p way k=zgl p (way.getD k M0).1 from rfl] at e1;have eb:=zdN hp hw (i:=k) J;obtain ⟨cv,hcv,hcv1⟩:∃ cv:Cover,cv=cond (way.getD k M0).2.1 ((way.getD k M0).1,zgl p (way.getD k M0).1-(x-zak p way k),zgl p (way.getD k M0).1-(x-1-zak p way k),()) ((way.getD k M0).1,x-1-zak p way k,x-zak p way k,())/\cv.1=(way.getD k M0).1:=⟨_,rfl,by cases (way.getD k M0).2.1<;>rfl⟩;refine ⟨cv.2.1,cv.2.2.1, ?_⟩;rw [show (((way.getD k M0).1,cv.2.1,cv.2.2.1,()):Cover)=cv by rw [← hcv1]];unfold zd2;rw [zpn,hv];simp only [if_true,Zs,Bool.not_true,cond_false,zte hp (show way.length<=9223372036854775807 by omega),hwb,zwx hp hw];rw [show decide ((1:Int)<1)=Oc from rfl,decide_eq_false (show ¬ x<1 by omega),decide_eq_false (show ¬ x>wlS p way by omega)];simp only [cond_false,Zs];rw [zqM (σ:=List Cover×Int×Int) (τ:=List Cover) (s0:=([],0,0)) (λi=>(if i<=k then [] else [cv],zak p way i,(i:Int))) way.length [cv] (by simp; rfl) Of ?h1 ?h2]
 . rfl
 case h2=>
  simp only [zS,cond_false];rw [if_neg J]
 case h1=>
  intro i hi;have hmi:=hw.m i hi;have hli:=zh7 hp hmi;have e2:=ze0 p way i;rw [show mvl p way i=zgl p (way.getD i M0).1 from rfl] at e2;have b1:=zdN hp hw (i:=i) J;have b2:=zdN hp hw (i:=i+1) J;simp only [zQ hi,cond_true,zo M0 hi,Zs,zpq hp hmi,zy (show i<9223372036854775807 by omega)];rw [zf (n:=x-1) J J,zf (n:=x-1-zak p way i) J J,zf (n:=x-zak p way i) J J,zf (n:=zak p way i+_) J J,← e2];by_cases hik:i=k
  . subst hik;rw [decide_eq_false J,show max (x-1-zak p way i) 0=x-1-zak p way i by omega,show min (x-zak p way i) (zgl p (way.getD i M0).1)=x-zak p way i by omega,zf J J,zf J J,if_pos (Nat.le_refl _),if_neg J,cond_false,hcv];cases (way.getD i M0).2.1<;>rfl
  . have hge:max (x-1-zak p way i) 0>=min (x-zak p way i) (zgl p (way.getD i M0).1):=by
     by_cases h:i<k
     . have:=zoz hp hw (i:=i+1) (j:=k) J J;omega
     . have:=zoz hp hw (i:=k+1) (j:=i) J J;omega
    rw [decide_eq_true hge,cond_true];by_cases h:i<k
    . rw [if_pos J,if_pos J]
    . rw [if_neg J,if_neg J]
theorem zwe (d:Day) (trip stop behind:Int) (hs:d.2.1.1.length<=9223372036854775807) (hh:d.2.1.2.1.length<=9223372036854775807):zfy d trip stop behind=Ob Od:=by
  unfold zfy;obtain ⟨b,e,q⟩:=zy1 d hs hh;rw [e,Zs,tknown];cases b with
  | false=>rfl
  | true=>
  have D:=q rfl;obtain ⟨M,mp,o1,_,o3,_,_⟩:=zwa D;have hM:=zm2 D o3;rw [zt3 o1];simp only [Bool.not_true,cond_false,Zs,show ((0:Int)!=0)=Oc from rfl,show ((0:Int)==0)=Od from rfl,cond_true];by_cases h1:trip<0
  · rw [decide_eq_true h1]; rfl
  by_cases h2:trip>=zp M
  · rw [decide_eq_false h1,decide_eq_true h2]; rfl
  by_cases h3:stop<0
  · rw [decide_eq_false h1,decide_eq_false h2,decide_eq_true h3]; rfl
  by_cases h4:behind<0
  · rw [decide_eq_false h1,decide_eq_false h2,decide_eq_false h3,decide_eq_true h4]; rfl
  rw [decide_eq_false h1,decide_eq_false h2,decide_eq_false h3,decide_eq_false h4];rw [zq] at h2;obtain ⟨k,rfl⟩:∃ k:Nat,trip=(k:Int):=⟨trip.toNat,by omega⟩;obtain ⟨s,rfl⟩:∃ s:Nat,stop=(s:Int):=⟨stop.toNat,by omega⟩;have hk:k<M.length:=J
  obtain ⟨i,hi,home,j,hmk,hmay,hj,hU⟩:=zy4 D o1 o3 hk;have C:=dyC D hi home;have hst:=zj5 D hi home;have hix:idx M (k:Int)=Ob (mkT d.1 d.2.1 i home d.2.2.2.1 j):=by rw [← hmk]; exact zo T0 hk
  have m1:(mkT d.1 d.2.1 i home d.2.2.2.1 j).1=(i:Int):=rfl;have m2:(mkT d.1 d.2.1 i home d.2.2.2.1 j).2.1=home:=rfl;have m3:(mkT d.1 d.2.1 i home d.2.2.2.1 j).2.2.2.1=zgf d.1 (ln0 d.2.1 i) home (hd0 d.2.1 i) (of0 d.2.1 i) d.2.2.2.1 j:=rfl;have hco:=zk1 (d:=d) (i:=(i:Int)) J home;rw [Int.toNat_natCast] at hco;have hdep:=zwN D hi home hj;simp only [cond_false,hix,Zs,m1,m2,m3,hco];rw [decide_eq_false (show ¬ (i:Int)<0 by omega),decide_eq_false (show ¬ (i:Int)>=zp d.2.1.1 by rw [zq]; omega)];simp only [cond_false,Zs];generalize zgf d.1 (ln0 d.2.1 i) home (hd0 d.2.1 i) (of0 d.2.1 i) d.2.2.2.1 j=dep at *
  have hof:=zpD D hi home;have hli:idx d.2.1.1 (i:Int)=Ob (ln0 d.2.1 i):=zo L0 hi;generalize hl:ln0 d.2.1 i=l at *
  generalize hc:zaW l home=c at *
  have hlen:=C.C.d;rw [zq,zf (n:=(c.2.1.length:Int)-1) J J];by_cases h5:(s:Int)>=(c.2.1.length:Int)-1
  · rw [decide_eq_true h5]; rfl
  rw [decide_eq_false h5,zy (show s<9223372036854775807 by omega)];have s1:idx c.2.1 (s:Int)=Ob (zcK c.2.1 s):=zo 0 J;have s2:idx c.2.1 ((s+1:Nat):Int)=Ob (zcK c.2.1 (s+1)):=zo 0 J;have t1:=C.C.st s J;have t2:=C.C.st (s+1) J;have hp:=zdd D.V.v;have hw:=zfZ C.C.w;have hwl:=zdN hp hw (i:=c.1.length) (Nat.le_refl _);rw [zok] at hwl;simp only [cond_false,s1,s2,Zs];rw [zf (n:=zcK c.2.1 (s+1)-zcK c.2.1 s) J J];by_cases h6:behind>zcK c.2.1 (s+1)-zcK c.2.1 s
  · rw [decide_eq_true h6]; rfl
  rw [decide_eq_false h6,cond_false,zf (n:=zcK c.2.1 s+behind) J J];obtain ⟨a,b,hcov⟩:=zrz D.V.v C.C.w (x:=zcK c.2.1 s+behind) J;have o1':idx (zhr (msC d.1 l c) c) (s:Int)=Ob (zib d.1 l c s):=ze1 J;have o2':idx (zhr (msC d.1 l c) c) ((s+1:Nat):Int)=Ob (zib d.1 l c (s+1)):=ze1 J;have dw:idx c.2.2.1 ((s+1:Nat):Int)=Ob (dwl c (s+1)):=zo 0 J;have b0:=zk2 C (k:=s) J;have b1:=zk2 C (k:=s+1) J;have d1:=C.C.dw (s+1) J;simp only [hcov,hli,hof,hU,Zs,show ((0:Int)!=0)=Oc from rfl,cond_false,o1',o2',dw,show ∀ y:Cover,(zp [y]!=1)=Oc from λ_=>rfl,show (zp (zhr (msC d.1 l c) c)!=(c.2.1.length:Int))=Oc from by rw [zq,zmX]; exact bne_self_eq_false _,show ∀ y:Cover,idx [y] (0:Int)=Ob y from λ_=>rfl];rw [zf (n:=dep+zib d.1 l c s) J J,zf (n:=dep+zib d.1 l c (s+1)) J J,zf J J];have hul:=zoy C dep (c.2.1.length-1);have hul2:(c.2.1.length-1)*(c.1.length+1)<=5*13:=Nat.mul_le_mul J J;have hmem:(((c.1.getD (onN (zak d.1 c.1) (zcK c.2.1 s+behind) c.1.length 0) M0).1,dep+zib d.1 l c s,dep+zib d.1 l c (s+1)-dwl c (s+1),()):Use)∈zox d.1 l c dep:=by
    unfold zox zm3;refine List.mem_flatMap.2 ⟨s,List.mem_range.2 J,List.mem_append_right _ ?_⟩;unfold zAA;have k0:onS d.1 c s<=onN (zak d.1 c.1) (zcK c.2.1 s+behind) c.1.length 0:=zqL J _ _;have k1:onN (zak d.1 c.1) (zcK c.2.1 s+behind) c.1.length 0<=onS d.1 c (s+1):=zqL J _ _;have k2:=zy3 C (s+1);generalize onN (zak d.1 c.1) (zcK c.2.1 s+behind) c.1.length 0=k at *
    refine List.mem_map.2 ⟨c.1.getD k M0, ?_,by rw [Int.add_sub_assoc]⟩;rw [show c.1.getD k M0=c.1[k] by simp [List.getD,show k<c.1.length by omega]];rw [List.mem_iff_getElem?];refine ⟨k-onS d.1 c s, ?_⟩;rw [List.getElem?_drop,List.getElem?_take,if_pos J,show onS d.1 c s+(k-onS d.1 c s)=k by omega,List.getElem?_eq_getElem J]
  have hus:(zox d.1 l c dep).length<=65:=by unfold zox; omega
  generalize zox d.1 l c dep=us at *
  generalize ((c.1.getD (onN (zak d.1 c.1) (zcK c.2.1 s+behind) c.1.length 0) M0).1,dep+zib d.1 l c s,dep+zib d.1 l c (s+1)-dwl c (s+1),())=want at *
  have h:=zeD (f:=λs101:Int=>
cond (decide (s101<zp us)) (Zb (idx us s101) λx105=>
cond (x105==want) (Ob (.inr (.inr Od))) (Ob (.inl (w64 (s101+1))))) (Ob (.inr (.inl ():Unit⊕Bool)))) (λk=>(k:Int)) us.length (λi=>!(us.getD i (0,0,0,())==want)) (.inr Od) (.inl ()) (s0:=0) rfl Of (λi hi=>by
      simp only [zQ hi,cond_true,zo (0,0,0,()) hi,Zs,zy (show i<9223372036854775807 by omega)];cases (us.getD i (0,0,0,())==want)<;>rfl) (by simp only [zS,cond_false])
  rw [h,Zs,if_neg]
  · rfl
  · intro hA;obtain ⟨n,hn,hw⟩:=List.getElem_of_mem hmem;have:=List.all_eq_true.1 hA n (List.mem_range.2 hn);rw [show us.getD n (0,0,0,())=want by rw [← hw]; simp [List.getD,hn]] at this;simp at this
end Go.Ai.Sx