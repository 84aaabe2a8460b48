/- Motion: all legs. -/
import Derived.Test.YtghlaibcihhbcaaGreatK14
import Derived.Test.YtghlaibcihhbcaaGreatK13
import Derived.Test.YtghlaibcihhbcaaGreatK9
import Derived.KernelRfl
set_option linter.unusedSimpArgs false
set_option linter.unusedVariables false
set_option linter.unusedSectionVars false
namespace Go.Ai.Sx
open Option renaming bind->Zb,bind_some->Zs
def zpY (p_2:Train) (y1:Option zau) (x7:List Int):((List Leg)×Int×Int×Int)->Option (((List Leg)×Int×Int×Int)⊕(((List Leg)×Int×Int)⊕((List Leg)×Int×Int×Int))):=(λs32=>
cond (decide (s32.2.1<(zl x7))) (Zb (idx x7 s32.2.1) λx35=>
Zb (y1) λp36=>
Zb (zaA p36 (s32.2.2.1,s32.2.2.2,()) x35) λy37=>
cond (!y37.2.2) (some (.inr (.inr ([],4,s32.2.2.1,s32.2.2.2)))) (cond (decide (s32.2.2.2>10000000000000000)) (some (.inr (.inr ([],4,s32.2.2.1,s32.2.2.2)))) (Zb (zcL 80 s32.1 ([y37.1])) λx44=>
some (.inl (x44,(w64 (s32.2.1+1)),y37.2.1.1,y37.2.1.2.1))))) (some (.inr (.inl (s32.1,s32.2.2.1,s32.2.2.2)))))
def znx (p_0:Plan) (p_1:List zR) (p_2:Train) (p_3:Int) (p_4:List Int):((List Leg)×Int×Int×Int)->Option (((List Leg)×Int×Int×Int)⊕(((List Leg)×Int×Int)⊕((List Leg)×Bool))):=λs281=>
cond (decide (s281.2.1<(zl p_4))) (Zb (idx p_4 s281.2.1) λx286=>
Zb (iter (zjf p_0 p_1 p_2 p_3 p_4 s281.2.1 x286) big (0,0,0,0,0,0,0,0,0,0,s281.2.2.1,s281.2.2.2)) (zmj p_2 s281.1 s281.2.1)) (some (.inr (.inl (s281.1,s281.2.2.1,s281.2.2.2))))
section
variable (p:Plan) (way:List zR) (t:Train) (st:Int)
def zhz:List Int->zb->Option (List Leg×zb)
 | [],x=>some ([],x)
 | s::r,x=>match zio p way t st s 36000 0 (0,0,0,0,0,0,()) 0 0 x with
  | none=>none
  | some (g,y)=>match zhz r y with
   | none=>none
   | some (gs,z)=>some (g::gs,z)
end
structure RunOk (p:Plan) (way:List zR) (t:Train) (st:Int) (stops:List Int):Prop where
 hp:zi6 p
 hw:zhQ p way
 ht:zkz t
 hst:0<=st/\st<t.2.2.2.2.2.2.2.2.2.1.length
 hn:2<=stops.length/\stops.length<=100
 h0:t.2.1<=zcR stops 0
 up:∀ k,k+1<stops.length->zcR stops k<zcR stops (k+1)
 la:zcR stops (stops.length-1)<=wlS p way
 b:wlS p way<=62000000000
section
variable {p:Plan} {way:List zR} {t:Train} {st:Int} {stops:List Int} (R:RunOk p way t st stops)
include R
theorem zpd {i j:Nat} (h:i<=j) (hj:j<stops.length):zcR stops i<=zcR stops j:=by
 induction j with
 | zero=>rw [show i=0 by omega]; omega
 | succ j ih=>
  by_cases e:i=j+1
  . subst e; omega
  . have h1:=ih (by omega) (by omega);have h2:=R.up j hj;omega
theorem zpe {i:Nat} (hi:i<stops.length):1<=zcR stops i/\zcR stops i<=62000000000:=by
 have h1:=zpd R (Nat.zero_le i) hi;have h2:=zpd R (i:=i) (j:=stops.length-1) (by omega) (by omega);have:=R.h0;have:=R.la;have:=R.b;have:=R.ht.len;omega
theorem zjy {stop:Int} (hS:stop<=100000000000):∀ (n:Nat) (tm:Int) (l:zX) (a b:Int) (x:zb) (g:Leg) (y:zb),zkw t stop x->zio p way t st stop n tm l a b x=some (g,y)->zkw t stop y:=by
 intro n;induction n with
 | zero=>
  intro tm l a b x g y hx h;unfold zio at h;split at h
  . cases h; exact hx
  . cases h
 | succ n ih=>
  intro tm l a b x g y hx h;unfold zio at h;split at h
  . cases h; exact hx
  . cases hd:znD p way t st stop x with
    | none=>rw [hd] at h; cases h
    | some d=>
     rw [hd] at h;exact ih _ _ _ _ _ _ _ (ziR R.hp R.hw R.ht R.hst hS hx hd).1 h
theorem zkw.up {s s':Int} {x:zb} (h:zkw t s x) (hs:s<=s'):zkw t s' x:=⟨h.p,h.w,by have:=h.s; omega⟩
theorem zwl {i:Nat} (h:i+1<stops.length):stops.drop (i+1)=zcR stops (i+1)::stops.drop (i+2):=by
 rw [List.drop_eq_getElem_cons h];congr 1;unfold zcR;simp [h]
theorem zmk:∀ (k i:Nat) (x:zb) (gs:List Leg) (z:zb),i+k+1=stops.length->zkw t (zcR stops i) x->zhz p way t st (stops.drop (i+1)) x=some (gs,z)->x.2.1<=z.2.1:=by
 intro k;induction k with
 | zero=>
  intro i x gs z hi hx h;rw [List.drop_of_length_le (by omega)] at h;unfold zhz at h;cases h; exact Int.le_refl _
 | succ k ih=>
  intro i x gs z hi hx h;have hi1:i+1<stops.length:=by omega
  have hb:=zpe R hi1;have hup:=R.up i hi1;have hxn:=zkw.up R hx (s':=zcR stops (i+1)) (by omega);rw [zwl R hi1] at h;unfold zhz at h;cases hl:zio p way t st (zcR stops (i+1)) 36000 0 (0,0,0,0,0,0,()) 0 0 x with
  | none=>rw [hl] at h; cases h
  | some gy=>
   obtain ⟨g,y⟩:=gy;rw [hl] at h;have hy:=zjy R (by omega) _ _ _ _ _ _ _ _ hxn hl;have h1:=zmg R.hp R.hw R.ht R.hst (stop:=zcR stops (i+1)) (by omega) _ _ _ _ _ _ _ _ hxn hl;simp only [] at h;cases hd:zhz p way t st (stops.drop (i+2)) y with
   | none=>rw [hd] at h; cases h
   | some gz=>
    rw [hd] at h;cases h;have h2:=ih (i+1) y _ _ (by omega) hy hd;omega
theorem ztY:∀ (k i:Nat) (acc:List Leg) (x:zb),i+k+1=stops.length->acc.length<=i->zkw t (zcR stops i) x->(x.2.1<=10000000000000000\/1<=k)->∃ T,Lp (zpY t (some (zil p way t st stops)) (stops.drop 1)) k (acc,(i:Int),x.1,x.2.1) T/\(match zhz p way t st (stops.drop (i+1)) x with | some (gs,z)=>if z.2.1<=10000000000000000 then T=.inl (acc++gs,z.1,z.2.1) else ∃ v w,T=.inr ([],4,v,w) | none=>∃ v w,T=.inr ([],4,v,w)):=by
 have hn:=R.hn;intro k;induction k with
 | zero=>
  intro i acc x hi hacc hx h16;refine ⟨.inl (acc,x.1,x.2.1),Lp.done ?_, ?_⟩
  ·unfold zpY;have:(stops.drop 1).length=i:=by rw [List.length_drop]; omega
   subst this;simp only [zV,cond_false]
  ·rw [List.drop_of_length_le (by omega)];unfold zhz;simp only [List.append_nil];rw [if_pos (by omega)]; trivial
 | succ k ih=>
  intro i acc x hi hacc hx h16;have hi1:i+1<stops.length:=by omega
  have hb:=zpe R hi1;have hup:=R.up i hi1;have hxn:=zkw.up R hx (s':=zcR stops (i+1)) (by omega);have hw:x.2.1<=100000000000000000:=hx.w.2;have hdl:(stops.drop 1).length=stops.length-1:=by rw [List.length_drop]
  have hix:idx (stops.drop 1) (i:Int)=some (zcR stops (i+1)):=by
   rw [zy 0 (by omega)];congr 1;unfold zcR;simp [List.getD,Nat.add_comm]
  by_cases hx16:x.2.1<=10000000000000000;rotate_left
  ·obtain ⟨Rr,hR⟩:=zwj (stops:=stops) R.hp R.hw R.ht R.hst (stop:=zcR stops (i+1)) (by omega) hxn (by omega);refine ⟨.inr ([],4,x.1,x.2.1),Lp.done ?_, ?_⟩
   ·unfold zpY;simp only [zM (show i<(stops.drop 1).length by omega),cond_true,hix,Zs];show (Zb (zaA (zil p way t st stops) x (zcR stops (i+1))) _:Option _)=_;rw [hR,Zs,decide_eq_true (show x.2.1>10000000000000000 by omega)];cases Rr.2.2<;>rfl
   ·cases hd:zhz p way t st (stops.drop (i+1)) x with
    | none=>exact ⟨_,_,rfl⟩
    | some gz=>
     have h3:=zmk R (k+1) i x gz.1 gz.2 hi hx hd;simp only [];rw [if_neg (by omega)];exact ⟨_,_,rfl⟩
  rw [zwl R hi1];obtain ⟨L,X,hleg⟩:=zxM (stops:=stops) R.hp R.hw R.ht R.hst (stop:=zcR stops (i+1)) (by omega) hxn hx16;unfold zhz;cases hl:zio p way t st (zcR stops (i+1)) 36000 0 (0,0,0,0,0,0,()) 0 0 x with
  | none=>
   rw [hl] at hleg;refine ⟨.inr ([],4,x.1,x.2.1),Lp.done ?_,⟨_,_,rfl⟩⟩;unfold zpY;simp only [zM (show i<(stops.drop 1).length by omega),cond_true,hix,Zs];show (Zb (zaA (zil p way t st stops) x (zcR stops (i+1))) _:Option _)=_;rw [hleg]; rfl
  | some gy=>
   obtain ⟨g,y⟩:=gy;rw [hl] at hleg;have hy:=zjy R (by omega) _ _ _ _ _ _ _ _ hxn hl;by_cases hy16:y.2.1<=10000000000000000;rotate_left
   ·refine ⟨.inr ([],4,x.1,x.2.1),Lp.done ?_, ?_⟩
    ·unfold zpY;simp only [zM (show i<(stops.drop 1).length by omega),cond_true,hix,Zs];show (Zb (zaA (zil p way t st stops) x (zcR stops (i+1))) _:Option _)=_;rw [hleg,Zs];simp only [if_neg hy16];rfl
    ·simp only [];cases hd:zhz p way t st (stops.drop (i+2)) y with
     | none=>exact ⟨_,_,rfl⟩
     | some gz=>
      have h3:=zmk R k (i+1) y gz.1 gz.2 (by omega) hy hd;simp only [];rw [if_neg (by omega)];exact ⟨_,_,rfl⟩
   simp only [if_pos hy16] at hleg;obtain ⟨T,h1,h2⟩:=ih (i+1) (acc++[g]) y (by omega) (by simp; omega) hy (.inl hy16);refine ⟨T,Lp.step ?_ h1, ?_⟩
   ·unfold zpY;simp only [zM (show i<(stops.drop 1).length by omega),cond_true,hix,Zs];show (Zb (zaA (zil p way t st stops) x (zcR stops (i+1))) _:Option _)=_;rw [hleg,Zs];simp only [Bool.not_true,cond_false,decide_eq_false (show ¬ x.2.1>10000000000000000 by omega)];rw [za8 (by simp; omega),Zs,zG (by omega)]
   ·simp only [];rw [show i+1+1=i+2 by omega] at h2;cases hd:zhz p way t st (stops.drop (i+2)) y with
    | none=>rw [hd] at h2; exact h2
    | some gz=>
     rw [hd] at h2;simp only [] at h2 ⊢;split at h2
     ·rename_i hz; rw [if_pos hz,h2,List.append_assoc]; rfl
     ·rename_i hz; rw [if_neg hz]; exact h2
theorem zrX:∀ (k i:Nat) (acc:List Leg) (x:zb),i+k+1=stops.length->acc.length<=i->zkw t (zcR stops i) x->∃ T,Lp (znx p way t st stops) k (acc,((i+1:Nat):Int),x.1,x.2.1) T/\(match zhz p way t st (stops.drop (i+1)) x with | some (gs,z)=>T=.inl (acc++gs,z.1,z.2.1)\/(T=.inr ([],false)/\10000000000000000<z.2.1) | none=>T=.inr ([],false)):=by
 have hn:=R.hn;intro k;induction k with
 | zero=>
  intro i acc x hi hacc hx;refine ⟨.inl (acc,x.1,x.2.1),Lp.done ?_, ?_⟩
  ·unfold znx;have:stops.length=i+1:=by omega
   rw [← this];simp only [zV,cond_false]
  ·rw [List.drop_of_length_le (by omega)];unfold zhz;simp only [List.append_nil];exact .inl trivial
 | succ k ih=>
  intro i acc x hi hacc hx;have hi1:i+1<stops.length:=by omega
  have hb:=zpe R hi1;have hup:=R.up i hi1;have hxn:=zkw.up R hx (s':=zcR stops (i+1)) (by omega);have hw:x.2.1<=100000000000000000:=hx.w.2;have hix:idx stops ((i+1:Nat):Int)=some (zcR stops (i+1)):=zy 0 hi1;rw [zwl R hi1];have hleg:=zwk (stops:=stops) (i:=((i+1:Nat):Int)) R.hp R.hw R.ht R.hst (stop:=zcR stops (i+1)) (by omega) hix (by omega) (by omega) hxn acc (by omega);rcases hleg with hleg | ⟨hleg,hfar⟩;rotate_left
  ·refine ⟨.inr ([],false),Lp.done ?_, ?_⟩
   ·unfold znx;simp only [zM hi1,cond_true,hix,Zs];exact hleg
   ·unfold zhz;cases hl:zio p way t st (zcR stops (i+1)) 36000 0 (0,0,0,0,0,0,()) 0 0 x with
    | none=>rfl
    | some gy=>
     have hy:=zjy R (by omega) _ _ _ _ _ _ _ _ hxn hl;have h4:=hfar _ _ hl;simp only [];cases hd:zhz p way t st (stops.drop (i+2)) gy.2 with
     | none=>trivial
     | some gz=>
      have h3:=zmk R k (i+1) gy.2 gz.1 gz.2 (by omega) hy hd;exact .inr ⟨trivial,by show 10000000000000000<gz.2.2.1; omega⟩
  unfold zhz;cases hl:zio p way t st (zcR stops (i+1)) 36000 0 (0,0,0,0,0,0,()) 0 0 x with
  | none=>
   rw [hl] at hleg;refine ⟨.inr ([],false),Lp.done ?_,rfl⟩;unfold znx;simp only [zM hi1,cond_true,hix,Zs];exact hleg
  | some gy=>
   obtain ⟨g,y⟩:=gy;rw [hl] at hleg;have hy:=zjy R (by omega) _ _ _ _ _ _ _ _ hxn hl;obtain ⟨T,h1,h2⟩:=ih (i+1) (acc++[g]) y (by omega) (by simp; omega) hy;refine ⟨T,Lp.step ?_ h1, ?_⟩
   ·unfold znx;simp only [zM hi1,cond_true,hix,Zs];rw [zG (by omega)] at hleg;exact hleg
   ·simp only [];rw [show i+1+1=i+2 by omega] at h2;cases hd:zhz p way t st (stops.drop (i+2)) y with
    | none=>rw [hd] at h2; exact h2
    | some gz=>
     rw [hd] at h2;simp only [] at h2 ⊢;refine h2.imp (λh2=>?_) id;rw [h2,List.append_assoc]; rfl
def st0 (t:Train) (stops:List Int):zb:=(0,10*t.1*zcR stops 0,())
theorem zpf:w64 (w64 (10*t.1)*zcR stops 0)=(st0 t stops).2.1/\zkw t (zcR stops 0) (st0 t stops):=by
 have hm:=R.ht.m;have hn:=R.hn;have hb:=zpe R (i:=0) (by omega);have h1:=zcb (a:=10*t.1) (b:=zcR stops 0) (A:=800000) (B:=62000000000) ⟨by omega,by omega⟩ ⟨by omega,by omega⟩;refine ⟨?_,⟨by show (0:Int)<=0; omega,by show (0:Int)<=_; omega⟩,⟨?_,by show 10*t.1*zcR stops 0<=_; omega⟩, ?_⟩
 . rw [zk (n:=10*t.1) (by omega) (by omega),zk (by omega) (by omega)]; rfl
 . show 10*t.1<=10*t.1*zcR stops 0;have h9:10*t.1*1<=10*t.1*zcR stops 0:=Int.mul_le_mul_of_nonneg_left hb.1 (by omega);omega
 . show 10*t.1*zcR stops 0/(10*t.1)<=zcR stops 0;rw [Int.mul_ediv_cancel_left _ (by omega)];omega
def zhR (p:Plan) (way:List zR) (t:Train) (st:Int) (stops:List Int):Option (List Leg):=(zhz p way t st (stops.drop 1) (st0 t stops)).bind λgz=>if gz.2.2.1<=10000000000000000 then some gz.1 else none
theorem zrY (hsb:zgi p way t st stops=true):zbM p way t st stops=some (match zhR p way t st stops with | some gs=>(gs,0) | none=>([],4)):=by
 have hn:=R.hn;have hw:=R.hw.n;unfold zbM;rw [zpc p way t st stops (by omega) (by omega),hsb];simp only [if_true,Zs,Bool.not_true,cond_false];have h0:idx stops 0=some (zcR stops 0):=zy (i:=0) 0 (by omega);have hsl:slO stops 1 (zl stops)=some (stops.drop 1):=by
  rw [ztt (by rw [zx]; omega),zx];simp
 rw [h0,Zs,hsl,Zs,(zpf R).1];obtain ⟨T,h1,h2⟩:=ztY R (stops.length-1) 0 [] (st0 t stops) (by omega) (by simp) (zpf R).2 (.inr (by omega));have hB:=h1.big (by simp only [big]; omega);refine (congrArg (λo=>Zb o λt46:((List Leg)×Int×Int)⊕((List Leg)×Int×Int×Int)=>alt (λb48=>some (b48.1,(0:Int))) (λb49=>some (b49.1,b49.2.1)) t46) hB).trans ?_;rw [Zs];unfold zhR;rw [Nat.zero_add] at h2;cases hd:zhz p way t st (stops.drop 1) (st0 t stops) with
 | some gz=>
  rw [hd] at h2;simp only [] at h2;simp only [Zs];split at h2
  ·rename_i hz; rw [if_pos hz,h2]; rfl
  ·rename_i hz; obtain ⟨v,w,h2⟩:=h2; rw [if_neg hz,h2]; rfl
 | none=>
  rw [hd] at h2;obtain ⟨v,w,h2⟩:=h2;rw [h2]; rfl
theorem zpZ:∃ l,(l=[]\/∃ z,zhz p way t st (stops.drop 1) (st0 t stops)=some (l,z))/\zej p way t st stops=some (match zhR p way t st stops with | some gs=>(gs,true) | none=>(l,false)):=by
 have hn:=R.hn;have hw:=R.hw.n;have h0:idx stops 0=some (zcR stops 0):=zy (i:=0) 0 (by omega);obtain ⟨T,h1,h2⟩:=zrX R (stops.length-1) 0 [] (st0 t stops) (by omega) (by simp) (zpf R).2;have hB:=h1.big (by simp only [big]; omega);rw [← (zpf R).1] at hB;unfold zej;rw [h0,Zs];have hE:=(congrArg (λo=>Zb o λt421:((List Leg)×Int×Int)⊕((List Leg)×Bool)=>alt (λb423=>some (b423.1,(decide (b423.2.2<=10000000000000000)))) (λb424=>some (b424.1,b424.2)) t421) hB);rw [Zs] at hE;refine (λq=>q.elim λl h=>⟨l,h.1,hE.trans h.2⟩:(∃ l,(l=[]\/∃ z,zhz p way t st (stops.drop 1) (st0 t stops)=some (l,z))/\_=some (match zhR p way t st stops with | some gs=>(gs,true) | none=>(l,false)))->_) ?_;unfold zhR;rw [Nat.zero_add] at h2;cases hd:zhz p way t st (stops.drop 1) (st0 t stops) with
 | some gz=>
  rw [hd] at h2;simp only [] at h2;simp only [Zs];rcases h2 with h2 | ⟨h2,hz⟩
  ·rw [h2];by_cases hz:gz.2.2.1<=10000000000000000
   ·exact ⟨[],.inl rfl,by simp only [zbC,decide_eq_true hz,if_pos hz]; rfl⟩
   ·exact ⟨gz.1,.inr ⟨gz.2,rfl⟩,by simp only [zbC,decide_eq_false hz,if_neg hz]; rfl⟩
  ·rw [h2];exact ⟨[],.inl rfl,by rw [if_neg (by omega)]; rfl⟩
 | none=>
  rw [hd] at h2;simp only [] at h2;rw [h2]; exact ⟨[],.inl rfl,rfl⟩
end
end Go.Ai.Sx
/- Motion: the law of the drive. -/
namespace Go.Ai.Sx
open Option renaming bind->Zb,bind_some->Zs
theorem zrZ {l:List Leg} (hl:l.length<=1000):zaP l (λx=>zeE x)=some (l.map (·.1)):=by
  unfold zaP;have hL:=zcA (f:=λs7:List Int×Int=>
cond (decide (s7.2<(zl l))) (Zb (idx l s7.2) λx10=>
Zb (zeE x10) λy12=>
Zb (zcL 8 s7.1 ([y12])) λx13=>
some (.inl (x13,(w64 (s7.2+1))))) (some (.inr s7.1))) l (λi b=>(b,(i:Int))) (λ_ b c=>(.inl (b++[c.1]):List Int⊕List Int)) (λb=>b) (λi b=>b.length=i) [] (s0:=([],0)) rfl (by omega) rfl (λi h b hb=>by
      refine ⟨?_,λb' hb'=>?_⟩
      · simp only [];rw [zM h,cond_true,zf0,List.getElem?_eq_getElem h,Zs];show (Zb (some l[i].1) _:Option _)=_;rw [Zs,za8 (by simp; omega),Zs,zG (by omega)]
      · cases hb'; simp; omega) (λb _=>by simp only [zV,cond_false])
  rw [hL,zeC,Zs];have:∀ (l:List Leg) (b:List Int),l.foldl (λb c=>b++[c.1]) b=b++l.map (·.1):=by
    intro l;induction l with
    | nil=>intro b; simp
    | cons a l ih=>intro b; rw [List.foldl_cons,ih]; simp
  rw [this]; rfl
theorem zr0 {p:Plan} {way:List zR} {t:Train} {st:Int} {stops:List Int} {gs:List Leg} {e:Int} (h:zbM p way t st stops=some (gs,e)) (hl:gs.length<=1000):zcI p way t st stops=some (if e=0 then (gs.map (·.1),0) else ([],e)):=by
 unfold zcI;rw [h,Zs];by_cases h0:e=0
 . subst h0;simp only [show ((0:Int)!=0)=false from rfl,cond_false,zrZ hl,Zs];rfl
 . have hb:(e !=0)=true:=by simpa using h0
   simp only [hb,cond_true];rw [if_neg h0]
section
variable {p:Plan} {way:List zR} {t:Train} {st:Int} {stops:List Int} (R:RunOk p way t st stops)
include R
omit R in
theorem zml:∀ {r:List Int} {x:zb} {gs:List Leg} {z:zb},zhz p way t st r x=some (gs,z)->gs.length=r.length
 | [],x,gs,z,h=>by unfold zhz at h; cases h; rfl
 | s::r,x,gs,z,h=>by
  unfold zhz at h;cases hl:zio p way t st s 36000 0 (0,0,0,0,0,0,()) 0 0 x with
  | none=>rw [hl] at h; cases h
  | some gy=>
   rw [hl] at h;simp only [] at h;cases hd:zhz p way t st r gy.2 with
   | none=>rw [hd] at h; cases h
   | some q=>
    rw [hd] at h;cases h;have:=zml hd;simp [this]
theorem zmm {gs:List Leg} (h:zhR p way t st stops=some gs):gs.length=stops.length-1:=by
 unfold zhR at h;cases hd:zhz p way t st (stops.drop 1) (st0 t stops) with
 | none=>rw [hd] at h; cases h
 | some q=>
  rw [hd,Zs] at h;split at h
  . cases h; rw [zml hd,List.length_drop]
  . cases h
end
end Go.Ai.Sx
/- Motion: a run's times,for callers in other chapters. -/
namespace Go.Ai.Sx
open Option renaming bind->Zb,bind_some->Zs
theorem ziS {p:Plan} {way:List zR} {t:Train} {st:Int} {stops:List Int} (h:zgi p way t st stops=true) (hb:wlS p way<=62000000000):RunOk p way t st stops:=by
 unfold zgi at h;simp only [Bool.and_eq_true] at h;obtain ⟨h1,h2,h3,h4,h5,h6,h7,h8⟩:=h;have hp:=zeG h1;have hw:=ziP h2;have h4:=zay.1 h4;have h5:=zay.1 h5;rw [zx] at h5;refine ⟨hp,hw,zog.1 h3,by omega,by omega, ?_,λk hk=>?_,of_decide_eq_true h8,hb⟩
 . rw [Bool.not_eq_true',decide_eq_false_iff_not] at h6; omega
 . unfold zxN at h7;have:=List.all_eq_true.1 h7 k (List.mem_range.2 (by omega));rw [Bool.not_eq_true',decide_eq_false_iff_not] at this; omega
theorem zr1 {p:Plan} {way:List zR} {t:Train} {st:Int} {stops:List Int} (hwl:way.length<=9223372036854775807) (hsl:stops.length<=9223372036854775807) (h:zgi p way t st stops=false):zbM p way t st stops=some ([],2):=by
 unfold zbM;rw [zpc p way t st stops hwl hsl,h];rfl
theorem zwm {p:Plan} {way:List zR} {t:Train} {st:Int} {stops:List Int} (h:zgi p way t st stops=true) (hb:wlS p way<=62000000000):zcI p way t st stops=some (match zhR p way t st stops with | some gs=>(gs.map (·.1),0) | none=>([],4)):=by
 have R:=ziS h hb;have hn:=R.hn;have hd:=zrY R h;cases hl:zhR p way t st stops with
 | none=>
  rw [hl] at hd;simp only [] at hd;rw [zr0 hd (by simp)]; rfl
 | some gs=>
  rw [hl] at hd;simp only [] at hd;have hlen:=zmm R hl;rw [zr0 hd (by omega)]; rfl
theorem zxO {p:Plan} {way:List zR} {t:Train} {st:Int} {stops:List Int} (hwl:way.length<=9223372036854775807) (hsl:stops.length<=9223372036854775807) (h:zgi p way t st stops=false):zcI p way t st stops=some ([],2):=by
 rw [zr0 (zr1 hwl hsl h) (by simp)]; rfl
end Go.Ai.Sx
/- Motion: how long legs take. -/
namespace Go.Ai.Sx
open Option renaming bind->Zb,bind_some->Zs
section
variable {p:Plan} {way:List zR} {t:Train} {st:Int} {stops:List Int}
theorem zuu {stop:Int}:∀ (n:Nat) (tm:Int) (l:zX) (a b:Int) (x:zb) (g:Leg) (y:zb),zio p way t st stop n tm l a b x=some (g,y)->tm<=g.1/\g.1<=tm+100*n
 | 0,tm,l,a,b,x,g,y,h=>by
  unfold zio at h;split at h
  . cases h; simp
  . cases h
 | n+1,tm,l,a,b,x,g,y,h=>by
  unfold zio at h;split at h
  . cases h; simp only []; omega
  . split at h
    . cases h
    . have:=zuu n _ _ _ _ _ _ _ h;omega
theorem zuv:∀ {r:List Int} {x:zb} {gs:List Leg} {z:zb},zhz p way t st r x=some (gs,z)->∀ g∈gs,0<=g.1/\g.1<=3600000
 | [],x,gs,z,h=>by unfold zhz at h; cases h; simp
 | s::r,x,gs,z,h=>by
  unfold zhz at h;cases hl:zio p way t st s 36000 0 (0,0,0,0,0,0,()) 0 0 x with
  | none=>rw [hl] at h; cases h
  | some gy=>
   rw [hl] at h;simp only [] at h;cases hd:zhz p way t st r gy.2 with
   | none=>rw [hd] at h; cases h
   | some q=>
    rw [hd] at h;cases h;intro g hg;rcases List.mem_cons.1 hg with rfl | hg
    ·have:=zuu 36000 0 _ _ _ _ gy.1 gy.2 hl;omega
    ·exact zuv hd g hg
theorem zwn {gs:List Leg} (h:zhR p way t st stops=some gs):∀ g∈gs,0<=g.1/\g.1<=3600000:=by
 unfold zhR at h;cases hd:zhz p way t st (stops.drop 1) (st0 t stops) with
 | none=>rw [hd] at h; cases h
 | some q=>
  rw [hd,Zs] at h;split at h
  . cases h; exact zuv hd
  . cases h
end
end Go.Ai.Sx
/- Service: numbers modulo others,departures. -/
namespace Go.Ai.Sx
open Option renaming bind->Zb,bind_some->Zs
end Go.Ai.Sx
/- Service: a course and its running times. -/
namespace Go.Ai.Sx
open Option renaming bind->Zb,bind_some->Zs
theorem zmn (n a b:Int):zae n a b=some (inB n a b):=zd1 n a b
theorem zyS (n a b:Int):zcT n a b=some (inB n a b):=zd1 n a b
theorem zr2 {A:Type} {n:Nat} {f:Nat->A} {i:Nat} {v:A}:(rlN n f).set i v=rlN n λx=>if x=i then v else f x:=by
 apply List.ext_getElem?;intro j;unfold rlN;rw [List.getElem?_set];by_cases h:i=j
 . subst h;by_cases h2:i<n
   . simp [h2]
   . simp [h2]
 . by_cases h2:j<n
   . simp [h,h2,Ne.symm h]
   . simp [h,h2]
theorem zgj {A:Type} {n:Nat} {f g:Nat->A} (h:∀ i,i<n->f i=g i):rlN n f=rlN n g:=List.map_congr_left λi hi=>h i (List.mem_range.1 hi)
theorem zgG {A:Type} {n:Nat} {f:Nat->A} {i:Nat} (h:i<n):idx (rlN n f) (i:Int)=some (f i):=by
 rw [zf0]; unfold rlN; simp [h]
theorem zpg {A:Type} (n:Nat) (x:A):List.replicate n x=rlN n λ_=>x:=by
 apply List.ext_getElem?;intro j;unfold rlN;rw [List.getElem?_replicate];by_cases h:j<n<;>simp [h]
def dwl (c:Course) (i:Nat):Int:=c.2.2.1.getD i 0
def stB (p:Plan) (c:Course) (i:Nat):Bool:=inB (zcR c.2.1 i) 1 (wlS p c.1)&&(decide (i=0)||!decide (zcR c.2.1 i<=zcR c.2.1 (i-1)))&&inB (dwl c i) 0 600
def zny (c:Course):Bool:=inB (zl c.2.1) 2 60&&(decide (c.2.2.1.length=c.2.1.length)&&((dwl c 0==0)&&(dwl c (c.2.1.length-1)==0)))
def zwC (p:Plan) (c:Course):Bool:=zkA p c.1&&(zny c&&(List.range c.2.1.length).all (stB p c))
theorem zr3 (c:Course) (e:Int) (he:2<=c.2.1.length->c.2.1.length<=60->c.2.2.1.length=c.2.1.length->e=((c.2.1.length-1:Nat):Int)):(cond (!(inB (zl c.2.1) 2 60)) (some true) (cond (zl c.2.2.1 !=zl c.2.1) (some true) (Zb (idx c.2.2.1 0) λx14=>
cond (x14 !=0) (some true) (Zb (idx c.2.2.1 e) λx16=>
some (x16 !=0)))))=some (!zny c):=by
 unfold zny;cases h1:inB (zl c.2.1) 2 60 with
 | false=>rfl
 | true=>
 have h1:=zay.1 h1;rw [zx] at h1;by_cases h2:c.2.2.1.length=c.2.1.length
 . have e1:(zl c.2.2.1 !=zl c.2.1)=false:=by rw [zx,zx,h2]; exact bne_self_eq_false _
   rw [e1,decide_eq_true h2,he (by omega) (by omega) h2];have hp:0<c.2.2.1.length:=by omega
   have i0:idx c.2.2.1 0=some (dwl c 0):=zy (l:=c.2.2.1) (i:=0) 0 hp;rw [i0,zy (l:=c.2.2.1) (i:=c.2.1.length-1) 0 (by omega)];show cond (dwl c 0 !=0) (some true) (some (dwl c (c.2.1.length-1)!=0))=_;unfold bne;cases (dwl c 0==0)<;>rfl
 . have e1:(zl c.2.2.1 !=zl c.2.1)=true:=by
    rw [zx,zx];simp only [bne_iff_ne,ne_eq];omega
   rw [e1,decide_eq_false h2];rfl
theorem zjz {c:Course} (h:zny c=true):(2<=c.2.1.length/\c.2.1.length<=60)/\c.2.2.1.length=c.2.1.length/\dwl c 0=0/\dwl c (c.2.1.length-1)=0:=by
 unfold zny at h;simp only [Bool.and_eq_true,decide_eq_true_eq,beq_iff_eq] at h;obtain ⟨h1,h2,h3,h4⟩:=h;have h1:=zay.1 h1;rw [zx] at h1;exact ⟨by omega,h2,h3,h4⟩
structure ztZ (p:Plan) (c:Course):Prop where
 w:zkA p c.1=true
 n:2<=c.2.1.length/\c.2.1.length<=60
 d:c.2.2.1.length=c.2.1.length
 d0:dwl c 0=0
 dn:dwl c (c.2.1.length-1)=0
 st:∀ i,i<c.2.1.length->1<=zcR c.2.1 i/\zcR c.2.1 i<=wlS p c.1
 dw:∀ i,i<c.2.1.length->0<=dwl c i/\dwl c i<=600
theorem zxP {p:Plan} {c:Course} (h:zwC p c=true):ztZ p c:=by
 unfold zwC at h;simp only [Bool.and_eq_true] at h;obtain ⟨h1,h2,h3⟩:=h;obtain ⟨a,b,c1,d⟩:=zjz h2;have hs:∀ i,i<c.2.1.length->stB p c i=true:=λi hi=>List.all_eq_true.1 h3 i (List.mem_range.2 hi);refine ⟨h1,a,b,c1,d,λi hi=>?_,λi hi=>?_⟩
 . have:=hs i hi;unfold stB at this;simp only [Bool.and_eq_true] at this;exact zay.1 this.1.1
 . have:=hs i hi;unfold stB at this;simp only [Bool.and_eq_true] at this;exact zay.1 this.2
def ziq (ms:Int):Int:=max 1 ((ms+999)/1000)
theorem znz {ms:Int} (h:0<=ms/\ms<=3600000):1<=ziq ms/\ziq ms<=3600:=by unfold ziq; omega
def zsi (p:Plan) (l:Line) (c:Course):Option (List Int):=
 if zgi p c.1 l.2.2.1 l.2.2.2.1 c.2.1 then (zhR p c.1 l.2.2.1 l.2.2.2.1 c.2.1).map (λgs=>gs.map (·.1)) else none
theorem zuw {p:Plan} {l:Line} {c:Course} {ms:List Int} (h:zsi p l c=some ms) (hb:wlS p c.1<=62000000000):ms.length=c.2.1.length-1/\∀ m∈ms,0<=m/\m<=3600000:=by
 unfold zsi at h;split at h
 . rename_i hs;cases hl:zhR p c.1 l.2.2.1 l.2.2.2.1 c.2.1 with
   | none=>rw [hl] at h; cases h
   | some gs=>
    rw [hl] at h;cases h;refine ⟨by rw [List.length_map]; exact zmm (ziS hs hb) hl,λm hm=>?_⟩;obtain ⟨g,hg,rfl⟩:=List.mem_map.1 hm;exact zwn hl g hg
 . cases h
theorem zzE (p:Plan) (l:Line) (c:Course) (hw:c.1.length<=9223372036854775807) (hn:c.2.1.length<=60) (hb:wlS p c.1<=62000000000):∃ e:Int,zcI p c.1 l.2.2.1 l.2.2.2.1 c.2.1=some (match zsi p l c with | some ms=>(ms,0) | none=>([],e))/\(zsi p l c=none->e≠0):=by
 unfold zsi;cases hs:zgi p c.1 l.2.2.1 l.2.2.2.1 c.2.1 with
 | false=>exact ⟨2,zxO hw (by omega) hs,λ_=>by omega⟩
 | true=>
  refine ⟨4, ?_,λ_=>by omega⟩;rw [zwm hs hb];cases zhR p c.1 l.2.2.1 l.2.2.2.1 c.2.1<;>rfl
theorem zyT (p:Plan) (l:Line) (c:Course) (hw:c.1.length<=9223372036854775807) (hn:c.2.1.length<=60) (hb:wlS p c.1<=62000000000):∃ L,zfD p c.1 l.2.2.1 l.2.2.2.1 c.2.1=some (match zsi p l c with | some ms=>(ms,true) | none=>(L,false)):=by
  unfold zfD zsi;rw [zrW p c.1 l.2.2.1 l.2.2.2.1 c.2.1 hw (by omega)];cases hs:zgi p c.1 l.2.2.1 l.2.2.2.1 c.2.1 with
  | false=>exact ⟨[],rfl⟩
  | true=>
    have R:=ziS hs hb;simp only [Zs,Bool.not_true,cond_false,if_true];have hL:=λ(gs:List Leg) (hlen:gs.length<=100)=>zcA (f:=λs7:List Int×Int=>
cond (decide (s7.2<(zl gs))) (Zb (idx gs s7.2) λx10=>
Zb (zcL 8 s7.1 ([x10.1])) λx13=>
some (.inl (x13,(w64 (s7.2+1))))) (some (.inr s7.1))) gs (λi b=>(b,(i:Int))) (λ_ b c=>(.inl (b++[c.1]):List Int⊕List Int)) (λb=>b) (λi b=>b.length=i) [] (s0:=([],0)) rfl (by omega) rfl (λi h b hb=>by
      refine ⟨?_,λb' hb'=>?_⟩
      · simp only [];rw [zM h,cond_true,zf0,List.getElem?_eq_getElem h,Zs,za8 (by simp; omega),Zs,zG (by omega)]
      · cases hb'; simp; omega) (λb _=>by simp only [zV,cond_false])
    have:∀ (l:List Leg) (b:List Int),l.foldl (λb c=>b++[c.1]) b=b++l.map (·.1):=by
      intro l;induction l with
      | nil=>intro b; simp
      | cons a l ih=>intro b; rw [List.foldl_cons,ih]; simp
    obtain ⟨l0,hl0,e⟩:=zpZ R;rw [e];cases hl:zhR p c.1 l.2.2.1 l.2.2.2.1 c.2.1 with
    | none=>
      have h0:l0.length<=100:=by
        rcases hl0 with rfl | ⟨z,hz⟩
        · simp
        · rw [zml hz,List.length_drop]; omega
      refine ⟨l0.map (·.1), ?_⟩;simp only [Zs];rw [hL l0 h0,zeC,Zs,this]; rfl
    | some gs=>
      have hlen:=zmm R hl;refine ⟨[], ?_⟩;simp only [Zs];rw [hL gs (by omega),zeC,Zs,this]; rfl
end Go.Ai.Sx
/- Service: the run of a course. -/
namespace Go.Ai.Sx
open Option renaming bind->Zb,bind_some->Zs
def zsj (ms:List Int) (k:Nat):Int:=if k=0 then 0 else ziq (ms.getD (k-1) 0)
def zf2 (ms:List Int) (c:Course):Nat->Int
 | 0=>0
 | k+1=>zf2 ms c k+ziq (ms.getD k 0)+dwl c (k+1)
def zlm (ms:List Int) (c:Course):List Int:=rlN c.2.1.length (zf2 ms c)
def zwo (ms:List Int) (c:Course):List Int:=rlN c.2.1.length (zsj ms)
def zjA (p:Plan) (l:Line) (c:Course):Option (List Int):=if zwC p c then zsi p l c else none
structure zyU (c:Course) (ms:List Int):Prop where
 n:ms.length=c.2.1.length-1
 b:∀ k,0<=ms.getD k 0/\ms.getD k 0<=3600000
theorem zor {p:Plan} {l:Line} {c:Course} {ms:List Int} (h:zjA p l c=some ms) (hb:zkA p c.1=true->wlS p c.1<=62000000000):ztZ p c/\zyU c ms:=by
 unfold zjA at h;split at h
 . rename_i hc;have C:=zxP hc;obtain ⟨h1,h2⟩:=zuw h (hb C.w);refine ⟨C,h1,λk=>?_⟩;by_cases hk:k<ms.length
   . rw [show ms.getD k 0=ms[k] by simp [List.getD,hk]];exact h2 _ (List.getElem_mem hk)
   . rw [show ms.getD k 0=0 by simp [List.getD,hk]]; omega
 . cases h
section
variable {p:Plan} {l:Line} {c:Course} {ms:List Int} (C:ztZ p c) (M:zyU c ms)
include C M
theorem zph:∀ {k:Nat},k<c.2.1.length->0<=zf2 ms c k/\zf2 ms c k<=4200*k
 | 0,_=>by simp [zf2]
 | k+1,hk=>by
  have h1:=zph (k:=k) (by omega);have h2:=znz (M.b k);have h3:=C.dw (k+1) hk;simp only [zf2];omega
theorem zxQ {i j:Nat} (h:i<j) (hj:j<c.2.1.length):zf2 ms c i+1<=zf2 ms c j:=by
 induction j with
 | zero=>omega
 | succ j ih=>
  have h2:=znz (M.b j);have h3:=C.dw (j+1) hj;simp only [zf2];by_cases e:i=j
  . subst e; omega
  . have:=ih (by omega) (by omega); omega
theorem zt0:∀ (k i:Nat),i+k=c.2.1.length-1->Lp (λs106:Int×List Int×List Int=>
cond (decide (s106.1<(zl ms))) (Zb (idx ms s106.1) λx109=>
Zb (zdJ .i64 (w64 (x109+999)) 1000) λx110=>
Zb (idx s106.2.2 (w64 (s106.1+1))) λx111=>
Zb (idx s106.2.1 s106.1) λx116=>
Zb (idx ((s106.2.2).set (Int.toNat (w64 (s106.1+1))) (max 1 x110)) (w64 (s106.1+1))) λx117=>
Zb (idx c.2.2.1 (w64 (s106.1+1))) λx118=>
Zb (idx s106.2.1 (w64 (s106.1+1))) λx119=>
some (.inl ((w64 (s106.1+1)),(s106.2.1).set (Int.toNat (w64 (s106.1+1))) (w64 ((w64 (x116+x117))+x118)),(s106.2.2).set (Int.toNat (w64 (s106.1+1))) (max 1 x110)))) (some (.inr (s106.2.1,s106.2.2)))) k ((i:Int),rlN c.2.1.length (λk=>if k<=i then zf2 ms c k else 0),rlN c.2.1.length (λk=>if k<=i then zsj ms k else 0)) (zlm ms c,zwo ms c):=by
 intro k;have hn:=C.n;have hd:=C.d;have hm:=M.n;induction k with
 | zero=>
  intro i hi;refine Lp.done ?_;simp only [];rw [show (i:Int)=(ms.length:Nat) by omega,zV,cond_false];have e1:rlN c.2.1.length (λk=>if k<=i then zf2 ms c k else 0)=zlm ms c:=zgj λk hk=>by rw [if_pos (by omega)]
  have e2:rlN c.2.1.length (λk=>if k<=i then zsj ms k else 0)=zwo ms c:=zgj λk hk=>by rw [if_pos (by omega)]
  rw [e1,e2]
 | succ k ih=>
  intro i hi;have hil:i<ms.length:=by omega
  refine Lp.step ?_ (ih (i+1) (by omega));have a1:idx ms (i:Int)=some (ms.getD i 0):=zy 0 hil;have hb:=M.b i;have hs:=znz hb;have a2:zdJ .i64 (w64 (ms.getD i 0+999)) 1000=some ((ms.getD i 0+999)/1000):=by
   rw [zk (by omega) (by omega),zcB ⟨by omega,by omega⟩ (by omega)]
  have a3:idx (rlN c.2.1.length (λk=>if k<=i then zsj ms k else 0)) ((i+1:Nat):Int)=some 0:=by
   rw [zgG (by omega),if_neg (by omega)]
  have a4:idx (rlN c.2.1.length (λk=>if k<=i then zf2 ms c k else 0)) ((i:Nat):Int)=some (zf2 ms c i):=by
   rw [zgG (by omega),if_pos (by omega)]
  have a5:idx (rlN c.2.1.length (λk=>if k<=i then zf2 ms c k else 0)) ((i+1:Nat):Int)=some 0:=by
   rw [zgG (by omega),if_neg (by omega)]
  have a6:idx c.2.2.1 ((i+1:Nat):Int)=some (dwl c (i+1)):=zy 0 (by omega);have hsec:max 1 ((ms.getD i 0+999)/1000)=ziq (ms.getD i 0):=rfl;have b1:(rlN c.2.1.length (λk=>if k<=i then zsj ms k else 0)).set (i+1) (ziq (ms.getD i 0))=rlN c.2.1.length (λk=>if k<=i+1 then zsj ms k else 0):=by
   rw [zr2];refine zgj λk hk=>?_;by_cases e:k=i+1
   ·subst e;rw [if_pos rfl,if_pos (by omega)];unfold zsj;rw [if_neg (by omega)]; rfl
   ·rw [if_neg e];by_cases e2:k<=i
    ·rw [if_pos e2,if_pos (by omega)]
    ·rw [if_neg e2,if_neg (by omega)]
  have hob:=zph C M (k:=i) (by omega);have hdb:=C.dw (i+1) (by omega);have b2:(rlN c.2.1.length (λk=>if k<=i then zf2 ms c k else 0)).set (i+1) (w64 (w64 (zf2 ms c i+ziq (ms.getD i 0))+dwl c (i+1)))=rlN c.2.1.length (λk=>if k<=i+1 then zf2 ms c k else 0):=by
   rw [zr2,zk (n:=zf2 ms c i+_) (by omega) (by omega),zk (by omega) (by omega)];refine zgj λk hk=>?_;by_cases e:k=i+1
   ·subst e;rw [if_pos rfl,if_pos (by omega)]; rfl
   ·rw [if_neg e];by_cases e2:k<=i
    ·rw [if_pos e2,if_pos (by omega)]
    ·rw [if_neg e2,if_neg (by omega)]
  have a7:idx (rlN c.2.1.length (λk=>if k<=i+1 then zsj ms k else 0)) ((i+1:Nat):Int)=some (ziq (ms.getD i 0)):=by
   rw [zgG (by omega),if_pos (by omega)];unfold zsj;rw [if_neg (by omega)]; rfl
  simp only [zM hil,cond_true,a1,Zs,a2,zG (show i<9223372036854775807 by omega),a3,a4,hsec,Int.toNat_natCast,b1,a7,a6,a5,b2]
end
theorem zr4 {p:Plan} {l:Line} {c:Course} (hv:zbe p=true) (hp:zi6 p) (hwl:c.1.length<=9223372036854775807) (hsl:c.2.1.length<=9223372036854775807) (hb:zkA p c.1=true->wlS p c.1<=62000000000):za7 p l c=some (match zjA p l c with | some ms=>(zwo ms c,zlm ms c,decide (zf2 ms c (c.2.1.length-1)<=50000)) | none=>([],[],false)):=by
  unfold za7;rw [zi8 p hwl,hv,Bool.true_and,Zs];unfold zjA zwC;cases hw:zkA p c.1 with
  | false=>rfl
  | true=>
  have hb:=hb hw;simp only [if_true,show ((0:Int)!=0)=false from rfl,cond_false,zmn,Zs];rw [zr3 c _ (λh1 h2 _=>by rw [zx,zk (by omega) (by omega)]; omega),Zs];cases hh:zny c with
  | false=>rfl
  | true=>
  obtain ⟨hn,hd,hd0,hdn⟩:=zjz hh;simp only [Bool.not_true,cond_false,Bool.true_and];have h:=zfE (f:=λs42:Int=>
cond (decide (s42<(zl c.2.1))) (Zb (idx c.2.1 s42) λx45=>
cond (!(inB x45 1 (wlS p c.1))) (some (.inr (.inr ([],[],false)))) (cond (decide (s42>0)) (Zb (idx c.2.1 (w64 (s42-1))) λx59=>
cond (decide (x45<=x59)) (some (.inr (.inr ([],[],false)))) (Zb (idx c.2.2.1 s42) λx62=>
cond (!(inB x62 0 600)) (some (.inr (.inr ([],[],false)))) (some (.inl (w64 (s42+1)))))) (Zb (idx c.2.2.1 s42) λx65=>
cond (!(inB x65 0 600)) (some (.inr (.inr ([],[],false)))) (some (.inl (w64 (s42+1))))))) (some (.inr (.inl ():Unit⊕(List Int×List Int×Bool))))) (λk=>(k:Int)) c.2.1.length (stB p c) (.inr ([],[],false)) (.inl ()) (s0:=0) rfl (by simp only [big]; omega) (λi hi=>by
      have a1:idx c.2.1 (i:Int)=some (zcR c.2.1 i):=zy 0 hi;have a2:idx c.2.2.1 (i:Int)=some (dwl c i):=zy 0 (by omega);unfold stB;by_cases h0:i=0
      · subst h0;simp only [zM hi,cond_true,a1,a2,Zs,decide_eq_false (show ¬ (((0:Nat):Int)>0) by omega),cond_false,decide_eq_true (show (0:Nat)=0 from rfl),Bool.true_or,Bool.and_true,zG (show 0<9223372036854775807 by omega)];cases inB (zcR c.2.1 0) 1 (wlS p c.1)<;>cases inB (dwl c 0) 0 600<;>rfl
      · have a3:idx c.2.1 (w64 ((i:Int)-1))=some (zcR c.2.1 (i-1)):=by
          rw [zk (by omega) (by omega),show (i:Int)-1=((i-1:Nat):Int) by omega];exact zy 0 (by omega)
        simp only [zM hi,cond_true,a1,a2,a3,Zs,decide_eq_true (show (i:Int)>0 by omega),decide_eq_false h0,Bool.false_or,zG (show i<9223372036854775807 by omega)];cases inB (zcR c.2.1 i) 1 (wlS p c.1)<;>cases decide (zcR c.2.1 i<=zcR c.2.1 (i-1))<;>cases inB (dwl c i) 0 600<;>rfl) (by simp only [zV,cond_false])
  rw [h,Zs];cases hs:(List.range c.2.1.length).all (stB p c) with
  | false=>rfl
  | true=>
  simp only [if_true,zbC];obtain ⟨e,hR,he⟩:=zzE p l c hwl (by omega) hb;rw [hR,Zs];cases hl:zsi p l c with
  | none=>
    have he:=he hl;have:(e !=0)=true:=by simpa using he
    simp only [this,cond_true,Zs]
  | some ms=>
    have hrs:zjA p l c=some ms:=by
      unfold zjA zwC;rw [hw,hh,hs];exact hl
    obtain ⟨C,M⟩:=zor hrs (λ_=>hb);have hm:=M.n;have e1:(zl ms !=w64 (zl c.2.1-1))=false:=by
      rw [zx,zx,zk (by omega) (by omega),hm];have:((c.2.1.length-1:Nat):Int)=(c.2.1.length:Int)-1:=by omega
      rw [this]; exact bne_self_eq_false _
    simp only [show ((0:Int)!=0)=false from rfl,cond_false,Zs,e1];have em:mkO 8 (zl c.2.1) (0:Int)=some (List.replicate c.2.1.length 0):=by
      rw [ztu (by rw [zx]; omega),zx,Int.toNat_natCast]
    simp only [em,Zs];have hL:=(zt0 C M (c.2.1.length-1) 0 (by omega)).big (by simp only [big]; omega);have z1:List.replicate c.2.1.length (0:Int)=rlN c.2.1.length (λk=>if k<=0 then zf2 ms c k else 0):=by
      rw [zpg];refine zgj λk hk=>?_;by_cases e:k=0
      · subst e; rfl
      · rw [if_neg (by omega)]
    have z2:List.replicate c.2.1.length (0:Int)=rlN c.2.1.length (λk=>if k<=0 then zsj ms k else 0):=by
      rw [zpg];refine zgj λk hk=>?_;by_cases e:k=0
      · subst e; rfl
      · rw [if_neg (by omega)]
    rw [← z1,← z2] at hL;rw [show ((0:Nat):Int)=0 from rfl] at hL;rw [hL,Zs];have e2:idx (zlm ms c) (w64 (zl c.2.1-1))=some (zf2 ms c (c.2.1.length-1)):=by
      rw [zx,zk (by omega) (by omega),show (c.2.1.length:Int)-1=((c.2.1.length-1:Nat):Int) by omega];exact zgG (by omega)
    rw [e2,Zs]
end Go.Ai.Sx
/- Service: a line; its offsets,its round and its cars,in the program and in the reference. -/
namespace Go.Ai.Sx
open Option renaming bind->Zb,bind_some->Zs
def okC (p:Plan) (l:Line) (c:Course):Bool:=match zjA p l c with | some ms=>decide (zf2 ms c (c.2.1.length-1)<=50000) | none=>false
def zgk (p:Plan) (l:Line):Bool:=inB l.2.2.2.2.1 0 3600&&(okC p l l.1&&okC p l l.2.1)
def msC (p:Plan) (l:Line) (c:Course):List Int:=(zjA p l c).getD []
def rnS (p:Plan) (l:Line):zO:=(l,[zwo (msC p l l.1) l.1,zwo (msC p l l.2.1) l.2.1],[zlm (msC p l l.1) l.1,zlm (msC p l l.2.1) l.2.1],())
structure zsk (p:Plan) (l:Line):Prop where
 w1:l.1.1.length<=9223372036854775807
 s1:l.1.2.1.length<=9223372036854775807
 w2:l.2.1.1.length<=9223372036854775807
 s2:l.2.1.2.1.length<=9223372036854775807
 b1:zbe p=true->zkA p l.1.1=true->wlS p l.1.1<=62000000000
 b2:zbe p=true->zkA p l.2.1.1=true->wlS p l.2.1.1<=62000000000
def zt1 (p_0:Plan) (l_1:Line) (y10:List Course):(Int×(List Int)×(List Int)×(List Int)×(List Int))->Option ((Int×(List Int)×(List Int)×(List Int)×(List Int))⊕(((List Int)×(List Int)×(List Int)×(List Int))⊕((Option zO)×Bool×(List Int)×(List Int)×(List Int)×(List Int)))):=(λs39=>
cond (decide (s39.1<2)) (Zb (idx y10 s39.1) λx42=>
Zb (za7 p_0 l_1 x42) λy49=>
Zb (idx [(),()] s39.1) λx52=>
Zb (idx [(),()] s39.1) λx53=>
cond (!y49.2.2) (some (.inr (.inr ((none:Option zO),false,cond (s39.1==0) y49.1 s39.2.1,cond (s39.1==1) y49.1 s39.2.2.1,cond (s39.1==0) y49.2.1 s39.2.2.2.1,cond (s39.1==1) y49.2.1 s39.2.2.2.2)))) (some (.inl ((w64 (s39.1+1)),cond (s39.1==0) y49.1 s39.2.1,cond (s39.1==1) y49.1 s39.2.2.1,cond (s39.1==0) y49.2.1 s39.2.2.2.1,cond (s39.1==1) y49.2.1 s39.2.2.2.2)))) (some (.inr (.inl (s39.2.1,s39.2.2.1,s39.2.2.2.1,s39.2.2.2.2)))))
theorem zux {p:Plan} {l:Line} {y:List Course} {c:Course} {i:Int} {r0 r1 o0 o1:List Int} (hi:i=0\/i=1) (hy:idx y i=some c) {r o:List Int} (hr:za7 p l c=some (r,o,false)):∃ T,zt1 p l y (i,r0,r1,o0,o1)=some (.inr (.inr (none,false,T))):=by
 unfold zt1;rcases hi with rfl | rfl
 . simp only [show decide ((0:Int)<2)=true from rfl,cond_true,hy,hr,Zs];exact ⟨_,rfl⟩
 . simp only [show decide ((1:Int)<2)=true from rfl,cond_true,hy,hr,Zs];exact ⟨_,rfl⟩
theorem zt2 {p:Plan} {l:Line} {r0 r1 o0 o1:List Int} {b0 b1:Bool} (h0:za7 p l l.1=some (r0,o0,b0)) (h1:za7 p l l.2.1=some (r1,o1,b1)):∃ T,iter (zt1 p l [l.1,l.2.1]) big (0,[],[],[],[])=some (if (b0&&b1)=true then .inl (r0,r1,o0,o1) else .inr (none,false,T)):=by
 cases b0 with
 | false=>
  obtain ⟨T,hT⟩:=zux (r0:=[]) (r1:=[]) (o0:=[]) (o1:=[]) (y:=[l.1,l.2.1]) (.inl rfl) rfl h0;exact ⟨T,(Lp.done (N:=0) hT).big (by simp only [big]; omega)⟩
 | true=>
  have s0:zt1 p l [l.1,l.2.1] (0,[],[],[],[])=some (.inl (1,r0,[],o0,[])):=by
   unfold zt1;simp only [show decide ((0:Int)<2)=true from rfl,cond_true,show idx [l.1,l.2.1] (0:Int)=some l.1 from rfl,h0,Zs];rfl
  cases b1 with
  | false=>
   obtain ⟨T,hT⟩:=zux (r0:=r0) (r1:=[]) (o0:=o0) (o1:=[]) (y:=[l.1,l.2.1]) (i:=1) (.inr rfl) rfl h1;exact ⟨T,(Lp.step s0 (Lp.done (N:=0) hT)).big (by simp only [big]; omega)⟩
  | true=>
   have s1:zt1 p l [l.1,l.2.1] (1,r0,[],o0,[])=some (.inl (2,r0,r1,o0,o1)):=by
    unfold zt1;simp only [show decide ((1:Int)<2)=true from rfl,cond_true,show idx [l.1,l.2.1] (1:Int)=some l.2.1 from rfl,h1,Zs];rfl
   have s2:zt1 p l [l.1,l.2.1] (2,r0,r1,o0,o1)=some (.inr (.inl (r0,r1,o0,o1))):=rfl;exact ⟨([],[],[],[]),(Lp.step s0 (Lp.step s1 (Lp.done (N:=0) s2))).big (by simp only [big]; omega)⟩
theorem zpi {p:Plan} {l:Line} (H:zsk p l):zci p l=some (if (zbe p&&zgk p l)=true then (some (rnS p l),true) else (none,false)):=by
 unfold zci;rw [zni,Zs];cases hv:zbe p with
 | false=>rfl
 | true=>
 have hp:=zeG hv;simp only [if_true,show ((0:Int)!=0)=false from rfl,cond_false,zmn,Zs,Bool.true_and];unfold zgk;cases hy:inB l.2.2.2.2.1 0 3600 with
 | false=>rfl
 | true=>
 simp only [Bool.not_true,cond_false,Bool.true_and,show zdr l=some [l.1,l.2.1] from rfl,Zs];have e0:=zr4 hv hp (l:=l) H.w1 H.s1 (H.b1 hv);have e1:=zr4 hv hp (l:=l) H.w2 H.s2 (H.b2 hv);have f0:za7 p l l.1=some ((match zjA p l l.1 with | some ms=>zwo ms l.1 | none=>[]),(match zjA p l l.1 with | some ms=>zlm ms l.1 | none=>[]),okC p l l.1):=by
  rw [e0]; unfold okC;cases zjA p l l.1<;>rfl
 have f1:za7 p l l.2.1=some ((match zjA p l l.2.1 with | some ms=>zwo ms l.2.1 | none=>[]),(match zjA p l l.2.1 with | some ms=>zlm ms l.2.1 | none=>[]),okC p l l.2.1):=by
  rw [e1]; unfold okC;cases zjA p l l.2.1<;>rfl
 obtain ⟨T,hT⟩:=zt2 f0 f1;unfold zt1 at hT;rw [hT,Zs];cases h0:okC p l l.1 with
 | false=>rfl
 | true=>
 cases h1:okC p l l.2.1 with
 | false=>rfl
 | true=>
 simp only [Bool.and_self,if_true,zbC];unfold rnS msC;have g0:∃ ms,zjA p l l.1=some ms:=by
  unfold okC at h0;cases hc:zjA p l l.1 with
  | none=>rw [hc] at h0; cases h0
  | some ms=>exact ⟨ms,rfl⟩
 have g1:∃ ms,zjA p l l.2.1=some ms:=by
  unfold okC at h1;cases hc:zjA p l l.2.1 with
  | none=>rw [hc] at h1; cases h1
  | some ms=>exact ⟨ms,rfl⟩
 obtain ⟨m0,g0⟩:=g0;obtain ⟨m1,g1⟩:=g1;rw [g0,g1];rfl
def znA (p:Plan) (l:Line) (c:Course):Int:=zf2 (msC p l c) c (c.2.1.length-1)
structure zwD (p:Plan) (l:Line) (c:Course):Prop where
 e:zjA p l c=some (msC p l c)
 C:ztZ p c
 M:zyU c (msC p l c)
 l1:1<=znA p l c
 l2:znA p l c<=50000
structure zzg (p:Plan) (l:Line):Prop where
 y:0<=l.2.2.2.2.1/\l.2.2.2.2.1<=3600
 o:zwD p l l.1
 h:zwD p l l.2.1
theorem zwp {p:Plan} {l:Line} {c:Course} (h:okC p l c=true) (hb:zkA p c.1=true->wlS p c.1<=62000000000):zwD p l c:=by
 unfold okC at h;cases hc:zjA p l c with
 | none=>rw [hc] at h; cases h
 | some ms=>
  rw [hc] at h;simp only [decide_eq_true_eq] at h;obtain ⟨C,M⟩:=zor hc hb;have hm:msC p l c=ms:=by unfold msC; rw [hc]; rfl
  have hn:=C.n;have h1:=zxQ C M (i:=0) (j:=c.2.1.length-1) (by omega) (by omega);simp only [zf2] at h1;exact ⟨by rw [hm]; exact hc,C,by rw [hm]; exact M,by unfold znA; rw [hm]; omega,by unfold znA; rw [hm]; omega⟩
theorem zyV {p:Plan} {l:Line} (H:zsk p l) (hv:zbe p=true) (h:zgk p l=true):zzg p l:=by
 unfold zgk at h;simp only [Bool.and_eq_true] at h;exact ⟨zay.1 h.1,zwp h.2.1 (H.b1 hv),zwp h.2.2 (H.b2 hv)⟩
theorem zpj (ms:List Int) (c:Course):(zlm ms c).length=c.2.1.length:=zfF _ _
theorem zkx {p:Plan} {l:Line} {c:Course} (h:zwD p l c):idx (zlm (msC p l c) c) (w64 (zl (zlm (msC p l c) c)-1))=some (znA p l c):=by
 have hn:=h.C.n;rw [zx,zpj,zk (by omega) (by omega),show (c.2.1.length:Int)-1=((c.2.1.length-1:Nat):Int) by omega];exact zgG (by omega)
section
variable {p:Plan} {l:Line} (K:zzg p l)
include K
end
end Go.Ai.Sx
/- Service: the reference's lines; small plans. -/
namespace Go.Ai.Sx
open Option renaming bind->Zb,bind_some->Zs
def zg8 (l:Line) (home:Bool):Course:=cond home l.2.1 l.1
structure CIn (p:Plan) (c:Course):Prop where
 w:c.1.length<=9223372036854775807
 s:c.2.1.length<=9223372036854775807
 b:zkA p c.1=true->wlS p c.1<=62000000000
theorem zsk.c {p:Plan} {l:Line} (H:zsk p l) (hv:zbe p=true) (home:Bool):CIn p (zg8 l home):=by
 cases home
 . exact ⟨H.w1,H.s1,H.b1 hv⟩
 . exact ⟨H.w2,H.s2,H.b2 hv⟩
theorem ziT (l:Line) (home:Bool):zeF l home=some (zg8 l home):=by cases home<;>rfl
section
variable {p:Plan} {l:Line} {home:Bool} (hp:zi6 p) (I:CIn p (zg8 l home))
include hp I
theorem zpk:zcJ p l home=some (match zjA p l (zg8 l home) with | some ms=>(ms.map ziq,true) | none=>([],false)):=by
  unfold zcJ;rw [ziT,Zs];have hwl:=I.w;have hsl:=I.s;have hb:=I.b;generalize zg8 l home=c at *
  rw [zrK hp hwl,Zs];unfold zjA zwC;cases hw:zkA p c.1 with
  | false=>rfl
  | true=>
  have hb:=hb hw;have hwo:=ziP hw;simp only [Bool.not_true,cond_false,zyS,Zs];have hhd:zny c=true->(2<=c.2.1.length/\c.2.1.length<=60)/\c.2.2.1.length=c.2.1.length:=λh=>⟨(zjz h).1,(zjz h).2.1⟩;rw [zr3 c _ (λh1 h2 h3=>by rw [zx,zk (by omega) (by omega)]; omega),Zs];cases hh:zny c with
  | false=>rfl
  | true=>
  obtain ⟨hn,hd⟩:=hhd hh;simp only [Bool.not_true,cond_false,Bool.true_and,zur hp hwo,Zs];have h:=zfE (f:=λs56:Int=>
cond (decide (s56<(zl c.2.1))) (Zb (idx c.2.1 s56) λx79=>
cond (!(inB x79 1 (wlS p c.1))) (some (.inr (.inr ([],false)))) (Zb (idx c.2.2.1 s56) λx84=>
cond (!(inB x84 0 600)) (some (.inr (.inr ([],false)))) (cond (decide (s56>0)) (Zb (idx c.2.1 s56) λx89=>
Zb (idx c.2.1 (w64 (s56-1))) λx90=>
cond (decide (x89<=x90)) (some (.inr (.inr ([],false)))) (some (.inl (w64 (s56+1))))) (some (.inl (w64 (s56+1))))))) (some (.inr (.inl ():Unit⊕(List Int×Bool))))) (λk=>(k:Int)) c.2.1.length (stB p c) (.inr ([],false)) (.inl ()) (s0:=0) rfl (by simp only [big]; omega) (λi hi=>by
      have a1:idx c.2.1 (i:Int)=some (zcR c.2.1 i):=zy 0 hi;have a2:idx c.2.2.1 (i:Int)=some (dwl c i):=zy 0 (by omega);unfold stB;by_cases h0:i=0
      · subst h0;simp only [zM hi,cond_true,a1,a2,Zs,decide_eq_false (show ¬ (((0:Nat):Int)>0) by omega),cond_false,decide_eq_true (show (0:Nat)=0 from rfl),Bool.true_or,Bool.and_true,zG (show 0<9223372036854775807 by omega)];cases inB (zcR c.2.1 0) 1 (wlS p c.1)<;>cases inB (dwl c 0) 0 600<;>rfl
      · have a3:idx c.2.1 (w64 ((i:Int)-1))=some (zcR c.2.1 (i-1)):=by
          rw [zk (by omega) (by omega),show (i:Int)-1=((i-1:Nat):Int) by omega];exact zy 0 (by omega)
        simp only [zM hi,cond_true,a1,a2,a3,Zs,decide_eq_true (show (i:Int)>0 by omega),decide_eq_false h0,Bool.false_or,zG (show i<9223372036854775807 by omega)];cases inB (zcR c.2.1 i) 1 (wlS p c.1)<;>cases decide (zcR c.2.1 i<=zcR c.2.1 (i-1))<;>cases inB (dwl c i) 0 600<;>rfl) (by simp only [zV,cond_false])
  rw [h,Zs];cases hs:(List.range c.2.1.length).all (stB p c) with
  | false=>rfl
  | true=>
  obtain ⟨L0,e0⟩:=zyT p l c hwl (by omega) hb;simp only [if_true,zbC,e0,Zs];cases hl:zsi p l c with
  | none=>rfl
  | some ms=>
    obtain ⟨m1,m2⟩:=zuw hl hb;simp only [Bool.not_true,cond_false];have hL:=zcA (f:=λs105:List Int×Int=>
cond (decide (s105.2<(zl ms))) (Zb (idx ms s105.2) λx108=>
Zb (zdJ .i64 (w64 (x108+999)) 1000) λx109=>
Zb (zcL 8 s105.1 ([(max 1 x109)])) λx110=>
some (.inl (x110,(w64 (s105.2+1))))) (some (.inr s105.1))) ms (λi b=>(b,(i:Int))) (λ_ b c=>(.inl (b++[ziq c]):List Int⊕List Int)) (λb=>b) (λi b=>b.length=i) [] (s0:=([],0)) rfl (by omega) rfl (λi h b hb=>by
        refine ⟨?_,λb' hb'=>?_⟩
        · have hm:=m2 _ (List.getElem_mem h);have a2:zdJ .i64 (w64 (ms[i]+999)) 1000=some ((ms[i]+999)/1000):=by
            rw [zk (by omega) (by omega),zcB ⟨by omega,by omega⟩ (by omega)]
          simp only [];rw [zM h,cond_true,zf0,List.getElem?_eq_getElem h,Zs,a2,Zs,za8 (by simp; omega),Zs,zG (by omega)];rfl
        · cases hb'; simp; omega) (λb _=>by simp only [zV,cond_false])
    rw [hL,zeC,Zs];have:∀ (l:List Int) (b:List Int),l.foldl (λb c=>b++[ziq c]) b=b++l.map ziq:=by
      intro l;induction l with
      | nil=>intro b; simp
      | cons a l ih=>intro b; rw [List.foldl_cons,ih]; simp
    rw [this]; rfl
theorem zpl:zeX p l home=some ((msC p l (zg8 l home)).map ziq):=by
 unfold zeX msC;rw [zpk hp I,Zs];cases zjA p l (zg8 l home)<;>rfl
theorem zky (K:zwD p l (zg8 l home)):zaQ p l home=some (zlm (msC p l (zg8 l home)) (zg8 l home)):=by
  unfold zaQ;rw [ziT,Zs,zpl hp I,Zs];generalize zg8 l home=c at *
  have hn:=K.C.n;have hm:=K.M.n;have hd:=K.C.d;have key:∀ k i:Nat,i+k=(msC p l c).length->Lp (λs17:List Int×Int=>
cond (decide (s17.2<(zl ((msC p l c).map ziq)))) (Zb (idx s17.1 s17.2) λx25=>
Zb (idx ((msC p l c).map ziq) s17.2) λx26=>
Zb (idx c.2.2.1 (w64 (s17.2+1))) λx27=>
Zb (zcL 8 s17.1 ([(w64 ((w64 (x25+x26))+x27))])) λx28=>
some (.inl (x28,(w64 (s17.2+1))))) (some (.inr s17.1))) k (rlN (i+1) (zf2 (msC p l c) c),(i:Int)) (zlm (msC p l c) c):=by
    intro k;induction k with
    | zero=>
      intro i hi;refine Lp.done ?_;have:(i:Int)=(((msC p l c).map ziq).length:Nat):=by rw [List.length_map]; omega
      simp only [this,zV,cond_false];unfold zlm;rw [show i+1=c.2.1.length by omega]
    | succ k ih=>
      intro i hi;refine Lp.step ?_ (ih (i+1) (by omega));have hil:i<((msC p l c).map ziq).length:=by rw [List.length_map]; omega
      have a1:idx (rlN (i+1) (zf2 (msC p l c) c)) (i:Int)=some (zf2 (msC p l c) c i):=zgG (by omega);have a2:idx ((msC p l c).map ziq) (i:Int)=some (ziq ((msC p l c).getD i 0)):=by
        have h2:i<(msC p l c).length:=by omega
        rw [zf0,List.getElem?_map,List.getElem?_eq_getElem h2,show (msC p l c).getD i 0=(msC p l c)[i] by simp [List.getD,h2]];rfl
      have a3:idx c.2.2.1 ((i+1:Nat):Int)=some (dwl c (i+1)):=zy (l:=c.2.2.1) (i:=i+1) 0 (by omega);have b1:=zph K.C K.M (k:=i) (by omega);have b2:=znz (K.M.b i);have b3:=K.C.dw (i+1) (by omega);have a4:zcL 8 (rlN (i+1) (zf2 (msC p l c) c)) [w64 (w64 (zf2 (msC p l c) c i+ziq ((msC p l c).getD i 0))+dwl c (i+1))]=some (rlN (i+1+1) (zf2 (msC p l c) c)):=by
        rw [za8 (by rw [zfF]; simp; omega),zjx (i+1),zk (n:=zf2 (msC p l c) c i+_) (by omega) (by omega),zk (by omega) (by omega)];rfl
      simp only [zM hil,cond_true,a1,a2,Zs,zG (show i<9223372036854775807 by omega),a3,a4]
  have hL:=(key (msC p l c).length 0 (by omega)).big (by simp only [big]; omega);have h0:rlN (0+1) (zf2 (msC p l c) c)=[0]:=rfl;rw [h0,show ((0:Nat):Int)=0 from rfl] at hL;rw [hL]; rfl
end
section
variable {p:Plan} {l:Line} (hv:zbe p=true) (H:zsk p l)
include hv H
theorem zt3:zd0 p l=some (zgk p l):=by
  have hp:=zeG hv;have key:∀ home:Bool,∀ s:Int,s=cond home 1 0->(Zb (zcJ p l (s==1)) λy14=>
cond (!y14.2) (some (.inr (.inr false))) (Zb (zaQ p l (s==1)) λy17=>
Zb (idx y17 (w64 ((zl y17)-1))) λx19=>
cond (decide (x19>50000)) (some (.inr (.inr false))) (some (.inl (w64 (s+1))))))=some (if okC p l (zg8 l home) then (.inl (w64 (s+1)):Int⊕(Unit⊕Bool)) else .inr (.inr false)):=by
    intro home s hs;have he:(s==1)=home:=by subst hs; cases home<;>rfl
    rw [he,zpk hp (H.c hv home),Zs];cases hc:zjA p l (zg8 l home) with
    | none=>
      have:okC p l (zg8 l home)=false:=by unfold okC; rw [hc]
      rw [this]; rfl
    | some ms=>
      obtain ⟨C,M⟩:=zor hc (H.c hv home).b;have hm:msC p l (zg8 l home)=ms:=by unfold msC; rw [hc]; rfl
      simp only [Bool.not_true,cond_false];cases hok:okC p l (zg8 l home) with
      | true=>
        have K:=zwp hok (H.c hv home).b;rw [zky hp (H.c hv home) K,Zs,zkx K,Zs,decide_eq_false (by have:=K.l2; omega),cond_false,if_pos rfl]
      | false=>
        have h2:¬ zf2 ms (zg8 l home) ((zg8 l home).2.1.length-1)<=50000:=by
          unfold okC at hok;rw [hc] at hok;simpa using hok
        have hof:zaQ p l home=some (zlm ms (zg8 l home)):=by
          unfold zaQ;rw [ziT,Zs,zpl hp (H.c hv home),Zs,hm];generalize zg8 l home=c at *
          have hn:=C.n;have hml:=M.n;have hd:=C.d;have key:∀ k i:Nat,i+k=ms.length->Lp (λs17:List Int×Int=>
cond (decide (s17.2<(zl (ms.map ziq)))) (Zb (idx s17.1 s17.2) λx25=>
Zb (idx (ms.map ziq) s17.2) λx26=>
Zb (idx c.2.2.1 (w64 (s17.2+1))) λx27=>
Zb (zcL 8 s17.1 ([(w64 ((w64 (x25+x26))+x27))])) λx28=>
some (.inl (x28,(w64 (s17.2+1))))) (some (.inr s17.1))) k (rlN (i+1) (zf2 ms c),(i:Int)) (zlm ms c):=by
            intro k;induction k with
            | zero=>
              intro i hi;refine Lp.done ?_;have:(i:Int)=((ms.map ziq).length:Nat):=by rw [List.length_map]; omega
              simp only [this,zV,cond_false];unfold zlm;rw [show i+1=c.2.1.length by omega]
            | succ k ih=>
              intro i hi;refine Lp.step ?_ (ih (i+1) (by omega));have hil:i<(ms.map ziq).length:=by rw [List.length_map]; omega
              have a1:idx (rlN (i+1) (zf2 ms c)) (i:Int)=some (zf2 ms c i):=zgG (by omega);have a2:idx (ms.map ziq) (i:Int)=some (ziq (ms.getD i 0)):=by
                have h2:i<ms.length:=by omega
                rw [zf0,List.getElem?_map,List.getElem?_eq_getElem h2,show ms.getD i 0=ms[i] by simp [List.getD,h2]];rfl
              have a3:idx c.2.2.1 ((i+1:Nat):Int)=some (dwl c (i+1)):=zy (l:=c.2.2.1) (i:=i+1) 0 (by omega);have b1:=zph C M (k:=i) (by omega);have b2:=znz (M.b i);have b3:=C.dw (i+1) (by omega);have a4:zcL 8 (rlN (i+1) (zf2 ms c)) [w64 (w64 (zf2 ms c i+ziq (ms.getD i 0))+dwl c (i+1))]=some (rlN (i+1+1) (zf2 ms c)):=by
                rw [za8 (by rw [zfF]; simp; omega),zjx (i+1),zk (n:=zf2 ms c i+_) (by omega) (by omega),zk (by omega) (by omega)];rfl
              simp only [zM hil,cond_true,a1,a2,Zs,zG (show i<9223372036854775807 by omega),a3,a4]
          have hL:=(key ms.length 0 (by omega)).big (by simp only [big]; omega);have h0:rlN (0+1) (zf2 ms c)=[0]:=rfl;rw [h0,show ((0:Nat):Int)=0 from rfl] at hL;rw [hL]; rfl
        have hn:=C.n;have hla:idx (zlm ms (zg8 l home)) (w64 (zl (zlm ms (zg8 l home))-1))=some (zf2 ms (zg8 l home) ((zg8 l home).2.1.length-1)):=by
          rw [zx,zpj,zk (by omega) (by omega),show ((zg8 l home).2.1.length:Int)-1=(((zg8 l home).2.1.length-1:Nat):Int) by omega];exact zgG (by omega)
        rw [hof,Zs,hla,Zs,decide_eq_true (by omega),cond_true];rfl
  unfold zd0;rw [zyS,Zs];unfold zgk;cases inB l.2.2.2.2.1 0 3600 with
  | false=>rfl
  | true=>
  simp only [Bool.not_true,cond_false,Bool.true_and];have k0:=key false 0 rfl;have k1:=key true 1 rfl;have h:=zfE (f:=λs11:Int=>
cond (decide (s11<2)) (Zb (zcJ p l (s11==1)) λy14=>
cond (!y14.2) (some (.inr (.inr false))) (Zb (zaQ p l (s11==1)) λy17=>
Zb (idx y17 (w64 ((zl y17)-1))) λx19=>
cond (decide (x19>50000)) (some (.inr (.inr false))) (some (.inl (w64 (s11+1)))))) (some (.inr (.inl ():Unit⊕Bool)))) (λk=>(k:Int)) 2 (λk=>okC p l (zg8 l (k==1))) (.inr false) (.inl ()) (s0:=0) rfl (by simp only [big]; omega) (λi hi=>by
      match i,hi with
      | 0,_=>exact k0
      | 1,_=>exact k1) rfl
  rw [h,Zs];show alt _ _ (if (List.range 2).all (λk=>okC p l (zg8 l (k==1)))=true then _ else _)=_;have e:(List.range 2).all (λk=>okC p l (zg8 l (k==1)))=(okC p l l.1&&okC p l l.2.1):=by
    show (okC p l l.1&&(okC p l l.2.1&&true))=_;rw [Bool.and_true]
  rw [e];cases (okC p l l.1&&okC p l l.2.1)<;>rfl
end
end Go.Ai.Sx
/- Service: what the program says of a line; small plans. -/
namespace Go.Ai.Sx
open Option renaming bind->Zb,bind_some->Zs
theorem zwq (home:Bool):zfZ home=some (cond home 1 0):=by cases home<;>rfl
section
variable {p:Plan} {l:Line} (H:zsk p l)
include H
theorem zt4 (home:Bool):zbP p l home=some (if (zbe p&&zgk p l)=true then (zlm (msC p l (zg8 l home)) (zg8 l home),0) else ([],2)):=by
 unfold zbP;rw [zpi H,Zs,zwq];cases (zbe p&&zgk p l) with
 | false=>rfl
 | true=>cases home<;>rfl
end
structure zzF (p:Plan):Prop where
 n:p.1.length<=12
 r:p.2.1.length<=12
 l:zbe p=true->∀ i:Nat,i<p.2.1.length->zje p i<=200000
structure zzG (l:Line):Prop where
 w1:l.1.1.length<=12
 w2:l.2.1.1.length<=12
 s1:l.1.2.1.length<=6
 s2:l.2.1.2.1.length<=6
end Go.Ai.Sx
/- Service: services,in the program and in the reference. -/
namespace Go.Ai.Sx
open Option renaming bind->Zb,bind_some->Zs
def hd0 (s:Service) (i:Nat):Int:=s.2.1.getD i 0
def of0 (s:Service) (i:Nat):Int:=s.2.2.1.getD i 0
def L0:Line:=(([],[],[],()),([],[],[],()),(0,0,0,0,0,0,0,0,0,[],()),0,0,())
def ln0 (s:Service) (i:Nat):Line:=s.1.getD i L0
def hoB (s:Service) (i:Nat):Bool:=inB (hd0 s i) 30 7200&&inB (of0 s i) 0 (hd0 s i-1)
def zr5 (p:Plan) (s:Service):Bool:=zbe p&&(inB (zl s.1) 1 20&&(decide (s.2.1.length=s.1.length)&&(decide (s.2.2.1.length=s.1.length)&&((List.range s.1.length).all λi=>zgk p (ln0 s i)&&hoB s i))))
structure zwE (p:Plan) (s:Service):Prop where
 n:s.1.length<=9223372036854775807
 h:s.2.1.length<=9223372036854775807
 l:∀ i,i<s.1.length->zsk p (ln0 s i)
theorem zt5 {p:Plan} {ls:List Line} (hI:∀ i,i<ls.length->zsk p (ls.getD i L0)):zde p ls=some (if (inB (zl ls) 1 20&&(List.range ls.length).all λi=>zbe p&&zgk p (ls.getD i L0))=true then (ls.map (rnS p),true) else ([],false)):=by
  unfold zde;rw [zmn,Zs];cases hi:inB (zl ls) 1 20 with
  | false=>rfl
  | true=>
  have hi:=zay.1 hi;rw [zx] at hi;simp only [Bool.not_true,cond_false,Bool.true_and];have key:∀ k i:Nat,i+k=ls.length->Lp (λs10:List zO×Int=>
cond (decide (s10.2<(zl ls))) (Zb (idx ls s10.2) λx13=>
Zb (zci p x13) λy15=>
cond (!y15.2) (some (.inr (.inr ([],false)))) (Zb (y15.1) λp16=>
Zb (zcL 8 s10.1 ([p16])) λx17=>
some (.inl (x17,(w64 (s10.2+1)))))) (some (.inr (.inl s10.1:List zO⊕(List zO×Bool))))) k ((ls.take i).map (rnS p),(i:Int)) (if ((List.range' i k).all λi=>zbe p&&zgk p (ls.getD i L0))=true then .inl (ls.map (rnS p)) else .inr ([],false)):=by
    intro k;induction k with
    | zero=>
      intro i hi;have:i=ls.length:=by omega
      subst this;refine Lp.done ?_;simp only [zV,cond_false,List.take_length];rfl
    | succ k ih=>
      intro i hi;have hil:i<ls.length:=by omega
      have a1:idx ls (i:Int)=some (ls.getD i L0):=zy L0 hil;rw [List.range'_succ,List.all_cons];have ho:=zpi (hI i hil);cases hb:(zbe p&&zgk p (ls.getD i L0)) with
      | false=>
        rw [hb] at ho;refine Lp.done ?_;simp only [zM hil,cond_true,a1,Zs,ho,Bool.false_eq_true,if_false,Bool.not_false,Bool.false_and]
      | true=>
        rw [hb] at ho;rw [Bool.true_and];refine Lp.step ?_ (ih (i+1) (by omega));have htk:(ls.take (i+1)).map (rnS p)=(ls.take i).map (rnS p)++[rnS p (ls.getD i L0)]:=by
          rw [List.take_add_one,List.map_append];simp [List.getD,hil]
        simp only [zM hil,cond_true,a1,Zs,ho,if_true,Bool.not_true,cond_false];rw [za8 (by rw [List.length_map,List.length_take]; simp; omega),Zs,zG (by omega),htk]
  have hL:=(key ls.length 0 (by omega)).big (by simp only [big]; omega);rw [show ((0:Nat):Int)=0 from rfl,← List.range_eq_range'] at hL;rw [show (ls.take 0).map (rnS p)=[] from rfl] at hL;rw [hL,Zs];cases ((List.range ls.length).all λi=>zbe p&&zgk p (ls.getD i L0))<;>rfl
theorem znB {n:Nat} {f g:Nat->Bool}:((List.range n).all λi=>f i&&g i)=((List.range n).all f&&(List.range n).all g):=by
 rw [Bool.eq_iff_iff,Bool.and_eq_true,List.all_eq_true,List.all_eq_true,List.all_eq_true];constructor
 . intro h;refine ⟨λx hx=>?_,λx hx=>?_⟩
   . have:=h x hx; rw [Bool.and_eq_true] at this; exact this.1
   . have:=h x hx; rw [Bool.and_eq_true] at this; exact this.2
 . intro h x hx;rw [h.1 x hx,h.2 x hx]; rfl
theorem zp0 {p:Plan} {s:Service} (H:zwE p s):zcx p s=some (if zr5 p s=true then (s.1.map (rnS p),true) else ([],false)):=by
  unfold zcx zr5;have hh:=H.h;have hn:=H.n;by_cases h1:s.2.1.length=s.1.length;rotate_left
  · have e1:(zl s.2.1 !=zl s.1)=true:=by rw [zx,zx]; simp only [bne_iff_ne,ne_eq]; omega
    rw [e1,decide_eq_false h1];simp
  have e1:(zl s.2.1 !=zl s.1)=false:=by rw [zx,zx,h1]; exact bne_self_eq_false _
  by_cases h2:s.2.2.1.length=s.1.length;rotate_left
  · have e2:(zl s.2.2.1 !=zl s.1)=true:=by rw [zx,zx]; simp only [bne_iff_ne,ne_eq]; omega
    rw [e1,e2,decide_eq_false h2];simp
  have e2:(zl s.2.2.1 !=zl s.1)=false:=by rw [zx,zx,h2]; exact bne_self_eq_false _
  rw [e1,e2,decide_eq_true h1,decide_eq_true h2];simp only [cond_false,Zs,Bool.true_and];have h:=zfE (f:=λs17:Int=>
cond (decide (s17<(zl s.2.1))) (Zb (idx s.2.1 s17) λx20=>
Zb (zae x20 30 7200) λy25=>
cond (!y25) (some (.inr (.inr ([],false)))) (Zb (idx s.2.2.1 s17) λx28=>
Zb (zae x28 0 (w64 (x20-1))) λy29=>
cond (!y29) (some (.inr (.inr ([],false)))) (some (.inl (w64 (s17+1)))))) (some (.inr (.inl ():Unit⊕(List zO×Bool))))) (λk=>(k:Int)) s.2.1.length (hoB s) (.inr ([],false)) (.inl ()) (s0:=0) rfl (by simp only [big]; omega) (λi hi=>by
      have a1:idx s.2.1 (i:Int)=some (hd0 s i):=zy 0 hi;have a2:idx s.2.2.1 (i:Int)=some (of0 s i):=zy 0 (by omega);unfold hoB;simp only [zM hi,cond_true,a1,a2,Zs,zmn];cases hb:inB (hd0 s i) 30 7200 with
      | false=>rfl
      | true=>
        have hb:=zay.1 hb;simp only [Bool.not_true,cond_false,Bool.true_and];rw [zk (by omega) (by omega),zG (by omega)];cases inB (of0 s i) 0 (hd0 s i-1)<;>rfl) (by simp only [zV,cond_false])
  rw [h,Zs,h1,znB];cases hA:(List.range s.1.length).all (hoB s) with
  | false=>
    simp;rfl
  | true=>
  simp only [if_true,zbC];rw [zt5 H.l];have hr:=znB (n:=s.1.length) (f:=λ_=>zbe p) (g:=λi=>zgk p (ln0 s i));unfold ln0 at hr;rw [hr];unfold ln0;cases hi:inB (zl s.1) 1 20 with
  | false=>simp
  | true=>
  have hi:=zay.1 hi;rw [zx] at hi;have hv:((List.range s.1.length).all λ_=>zbe p)=zbe p:=by
    obtain ⟨m,hm⟩:∃ m,s.1.length=m+1:=⟨s.1.length-1,by omega⟩;rw [hm,Bool.eq_iff_iff,List.all_eq_true];exact ⟨λh=>h 0 (List.mem_range.2 (by omega)),λh _ _=>h⟩
  rw [hv];simp only [Bool.and_true,Bool.true_and,Zs]
theorem zr6 {p:Plan} {s:Service} (H:zwE p s):zeg p s=some (if zr5 p s=true then 0 else 2):=by
 unfold zeg;rw [zp0 H,Zs];cases zr5 p s<;>rfl
structure zzh (p:Plan) (s:Service):Prop where
 v:zbe p=true
 n:1<=s.1.length/\s.1.length<=20
 h:s.2.1.length=s.1.length
 o:s.2.2.1.length=s.1.length
 l:∀ i,i<s.1.length->zgk p (ln0 s i)=true
 hb:∀ i,i<s.1.length->30<=hd0 s i/\hd0 s i<=7200
 ob:∀ i,i<s.1.length->0<=of0 s i/\of0 s i<=hd0 s i-1
theorem zxR {p:Plan} {s:Service} (h:zr5 p s=true):zzh p s:=by
 unfold zr5 at h;simp only [Bool.and_eq_true,decide_eq_true_eq] at h;obtain ⟨h1,h2,h3,h4,h5⟩:=h;have h2:=zay.1 h2;rw [zx] at h2;have h6:∀ i,i<s.1.length->zgk p (ln0 s i)=true/\hoB s i=true:=λi hi=>by
  have:=List.all_eq_true.1 h5 i (List.mem_range.2 hi);rwa [Bool.and_eq_true] at this
 refine ⟨h1,by omega,h3,h4,λi hi=>(h6 i hi).1,λi hi=>?_,λi hi=>?_⟩
 . have:=(h6 i hi).2;unfold hoB at this;rw [Bool.and_eq_true] at this;exact zay.1 this.1
 . have:=(h6 i hi).2;unfold hoB at this;rw [Bool.and_eq_true] at this;exact zay.1 this.2
theorem zos {p:Plan} {s:Service} (H:zwE p s):zdh p s=some (zr5 p s):=by
  unfold zdh zr5;rw [znj,Zs];cases hv:zbe p with
  | false=>rfl
  | true=>
  simp only [Bool.not_true,cond_false,zyS,Zs];cases hi:inB (zl s.1) 1 20 with
  | false=>rfl
  | true=>
  have hi:=zay.1 hi;rw [zx] at hi;by_cases h1:s.2.1.length=s.1.length;rotate_left
  · have e1:(zl s.2.1 !=zl s.1)=true:=by rw [zx,zx]; simp only [bne_iff_ne,ne_eq]; omega
    rw [e1,decide_eq_false h1];rfl
  have e1:(zl s.2.1 !=zl s.1)=false:=by rw [zx,zx,h1]; exact bne_self_eq_false _
  by_cases h2:s.2.2.1.length=s.1.length;rotate_left
  · have e2:(zl s.2.2.1 !=zl s.1)=true:=by rw [zx,zx]; simp only [bne_iff_ne,ne_eq]; omega
    rw [e1,e2,decide_eq_true h1,decide_eq_false h2];rfl
  have e2:(zl s.2.2.1 !=zl s.1)=false:=by rw [zx,zx,h2]; exact bne_self_eq_false _
  rw [e1,e2,decide_eq_true h1,decide_eq_true h2];simp only [Bool.not_true,cond_false,Zs,Bool.true_and];have h:=zfE (f:=λs44:Int=>
cond (decide (s44<(zl s.1))) (Zb (idx s.1 s44) λx65=>
Zb (zd0 p x65) λy66=>
cond (!y66) (some (.inr (.inr false))) (Zb (idx s.2.1 s44) λx69=>
cond (!(inB x69 30 7200)) (some (.inr (.inr false))) (Zb (idx s.2.2.1 s44) λx73=>
Zb (idx s.2.1 s44) λx74=>
cond (!(inB x73 0 (w64 (x74-1)))) (some (.inr (.inr false))) (some (.inl (w64 (s44+1))))))) (some (.inr (.inl ():Unit⊕Bool)))) (λk=>(k:Int)) s.1.length (λi=>zgk p (ln0 s i)&&hoB s i) (.inr false) (.inl ()) (s0:=0) rfl (by simp only [big]; omega) (λi hi=>by
      have a0:idx s.1 (i:Int)=some (ln0 s i):=zy L0 hi;have a1:idx s.2.1 (i:Int)=some (hd0 s i):=zy 0 (by omega);have a2:idx s.2.2.1 (i:Int)=some (of0 s i):=zy 0 (by omega);unfold hoB;simp only [zM hi,cond_true,a0,a1,a2,Zs,zt3 hv (H.l i hi)];cases zgk p (ln0 s i) with
      | false=>rfl
      | true=>
      cases hb:inB (hd0 s i) 30 7200 with
      | false=>rfl
      | true=>
        have hb:=zay.1 hb;simp only [Bool.not_true,cond_false,Bool.true_and];rw [zk (by omega) (by omega),zG (by omega)];cases inB (of0 s i) 0 (hd0 s i-1)<;>rfl) (by simp only [zV,cond_false])
  rw [h,Zs];cases ((List.range s.1.length).all λi=>zgk p (ln0 s i)&&hoB s i)<;>rfl
structure zzK (p:Plan) (s:Service):Prop where
 S:zzF p
 l:∀ i,i<s.1.length->zzG (ln0 s i)
 n:s.1.length<=3
 h:s.2.1.length<=4
 o:s.2.2.1.length<=4
end Go.Ai.Sx
/- Duty: the tasks of trips. -/
namespace Go.Ai.Sx
open Option renaming bind->Zb,bind_some->Zs
theorem zwr (n a b:Int):zaI n a b=some (inB n a b):=zd1 n a b
theorem zzi (n a b:Int):zgd n a b=some (inB n a b):=zd1 n a b
theorem zxS {V:Type} {n:Nat} {B:Nat->Bool} {v:V} {F:Int->Option (Int⊕(Unit⊕V))} (h1:∀ i:Nat,i<n->F (i:Int)=some (if B i=true then .inl ((i+1:Nat):Int) else .inr (.inr v))) (h2:F (n:Int)=some (.inr (.inl ()))):∀ k i:Nat,i+k=n->Lp F k (i:Int) (if (List.range' i k).all B=true then .inl () else .inr v):=by
 intro k;induction k with
 | zero=>
  intro i h;have:i=n:=by omega
  subst this;exact Lp.done h2
 | succ k ih=>
  intro i h;have e:=h1 i (by omega);rw [List.range'_succ,List.all_cons];cases hb:B i with
  | false=>rw [hb] at e; exact Lp.done e
  | true=>rw [hb] at e; rw [Bool.true_and]; exact Lp.step e (ih (i+1) (by omega))
theorem zr7 {V:Type} {n:Nat} {B:Nat->Bool} {v:V} {F:Int->Option (Int⊕(Unit⊕V))} (hn:n<=1000000) (h1:∀ i:Nat,i<n->F (i:Int)=some (if B i=true then .inl ((i+1:Nat):Int) else .inr (.inr v))) (h2:F (n:Int)=some (.inr (.inl ()))):iter F big 0=some (if (List.range n).all B=true then .inl () else .inr v):=by
 rw [List.range_eq_range'];exact (zxS h1 h2 n 0 (by omega)).big (by simp only [big]; omega)
theorem zxT {A V:Type} {n:Nat} {B:Nat->Bool} {f:Nat->A} {v:V} {F:List A×Int->Option ((List A×Int)⊕(List A⊕V))} (h1:∀ i:Nat,i<n->F (rlN i f,(i:Int))=some (if B i=true then .inl (rlN (i+1) f,((i+1:Nat):Int)) else .inr (.inr v))) (h2:F (rlN n f,(n:Int))=some (.inr (.inl (rlN n f)))):∀ k i:Nat,i+k=n->Lp F k (rlN i f,(i:Int)) (if (List.range' i k).all B=true then .inl (rlN n f) else .inr v):=by
 intro k;induction k with
 | zero=>
  intro i h;have:i=n:=by omega
  subst this;exact Lp.done h2
 | succ k ih=>
  intro i h;have e:=h1 i (by omega);rw [List.range'_succ,List.all_cons];cases hb:B i with
  | false=>rw [hb] at e; exact Lp.done e
  | true=>rw [hb] at e; rw [Bool.true_and]; exact Lp.step e (ih (i+1) (by omega))
theorem zuy {A V:Type} {n:Nat} {B:Nat->Bool} {f:Nat->A} {v:V} {F:List A×Int->Option ((List A×Int)⊕(List A⊕V))} (hn:n<=1000000) (h1:∀ i:Nat,i<n->F (rlN i f,(i:Int))=some (if B i=true then .inl (rlN (i+1) f,((i+1:Nat):Int)) else .inr (.inr v))) (h2:F (rlN n f,(n:Int))=some (.inr (.inl (rlN n f)))):iter F big ([],0)=some (if (List.range n).all B=true then .inl (rlN n f) else .inr v):=by
 rw [List.range_eq_range'];exact (zxT h1 h2 n 0 (by omega)).big (by simp only [big]; omega)
def T08:Trip:=(0,false,0,0,())
def tr8 (ts:List Trip) (i:Nat):Trip:=ts.getD i T08
def zp1 (s:Service) (ts:List Trip) (i:Nat):Bool:=inB (tr8 ts i).1 0 (zl s.1-1)&&(inB (tr8 ts i).2.2.2.1 0 200000&&(decide (i=0)||!decide ((tr8 ts i).2.2.2.1<(tr8 ts (i-1)).2.2.2.1)))
def zim (s:Service) (ts:List Trip):Bool:=(List.range ts.length).all (zp1 s ts)
def zr8 (p:Plan) (s:Service) (t:Trip):Int:=t.2.2.2.1+znA p (ln0 s t.1.toNat) (zg8 (ln0 s t.1.toNat) t.2.1)
def zkH (p:Plan) (s:Service) (t:Trip):Task:=cond t.2.1 (2*t.1+1,2*t.1,t.2.2.2.1,zr8 p s t,()) (2*t.1,2*t.1+1,t.2.2.2.1,zr8 p s t,())
def inT (p:Plan) (s:Service) (ts:List Trip) (i:Nat):Bool:=!decide (zr8 p s (tr8 ts i)>200000)
def zpm (p:Plan) (s:Service) (ts:List Trip):List Task:=rlN ts.length λi=>zkH p s (tr8 ts i)
def inA (p:Plan) (s:Service) (ts:List Trip):Bool:=(List.range ts.length).all (inT p s ts)
theorem zxU {V:Type} {v:V} {s:Service} {ts:List Trip} (hs:s.1.length<=2) (hn:ts.length<=100) {i:Nat} (hi:i<ts.length) {w1 w2:Bool} (e1:w1=inB (tr8 ts i).1 0 (zl s.1-1)) (e2:w2=inB (tr8 ts i).2.2.2.1 0 200000):cond (!w1) (some (.inr (.inr v))) (cond (!w2) (some (.inr (.inr v))) (cond (decide ((i:Int)>0)) (Zb (idx ts (w64 ((i:Int)-1))) λx52=>cond (decide ((tr8 ts i).2.2.2.1<x52.2.2.2.1)) (some (.inr (.inr v))) (some (.inl (w64 ((i:Int)+1))))) (some (.inl (w64 ((i:Int)+1))))))=some (if zp1 s ts i=true then Sum.inl ((i+1:Nat):Int) else .inr (.inr v:Unit⊕V)):=by
 subst e1 e2;unfold zp1;cases inB (tr8 ts i).1 0 (zl s.1-1) with
 | false=>rfl
 | true=>
 cases inB (tr8 ts i).2.2.2.1 0 200000 with
 | false=>rfl
 | true=>
 simp only [Bool.not_true,cond_false,Bool.true_and];rw [zG (by omega)];by_cases h0:i=0
 . subst h0; rfl
 . rw [decide_eq_true (show (i:Int)>0 by omega),cond_true,zk (by omega) (by omega),show (i:Int)-1=((i-1:Nat):Int) by omega,zy T08 (by omega),Zs,decide_eq_false h0,Bool.false_or];show cond (decide ((tr8 ts i).2.2.2.1<(tr8 ts (i-1)).2.2.2.1)) _ _=_;cases decide ((tr8 ts i).2.2.2.1<(tr8 ts (i-1)).2.2.2.1)<;>rfl
structure Sv8 (p:Plan) (s:Service) (ts:List Trip):Prop where
 I:zwE p s
 O:zzh p s
 n:s.1.length<=2
 t:ts.length<=100
theorem zot {p:Plan} {s:Service} {ts:List Trip} (h:zim s ts=true) {i:Nat} (hi:i<ts.length):(0<=(tr8 ts i).1/\(tr8 ts i).1<s.1.length)/\(0<=(tr8 ts i).2.2.2.1/\(tr8 ts i).2.2.2.1<=200000):=by
 have h1:=List.all_eq_true.1 h i (List.mem_range.2 hi);unfold zp1 at h1;simp only [Bool.and_eq_true] at h1;have a:=zay.1 h1.1;have b:=zay.1 h1.2.1;rw [zx] at a;exact ⟨⟨a.1,by omega⟩,b⟩
section
variable {p:Plan} {s:Service} {ts:List Trip} (H:Sv8 p s ts) (hT:zim s ts=true)
include H hT
theorem zws {i:Nat} (hi:i<ts.length):∃ K:zwD p (ln0 s (tr8 ts i).1.toNat) (zg8 (ln0 s (tr8 ts i).1.toNat) (tr8 ts i).2.1),zsk p (ln0 s (tr8 ts i).1.toNat)/\zgk p (ln0 s (tr8 ts i).1.toNat)=true/\idx s.1 (tr8 ts i).1=some (ln0 s (tr8 ts i).1.toNat):=by
 obtain ⟨⟨a,b⟩,_⟩:=zot (p:=p) hT hi;have hk:(tr8 ts i).1.toNat<s.1.length:=by omega
 have hl:=H.O.l _ hk;have hI:=H.I.l _ hk;have hO:=zyV hI H.O.v hl;refine ⟨?_,hI,hl, ?_⟩
 . cases (tr8 ts i).2.1
   . exact hO.o
   . exact hO.h
 . have:=zy L0 hk;rwa [Int.toNat_of_nonneg a] at this
theorem zwt {i:Nat} (hi:i<ts.length):1<=zr8 p s (tr8 ts i)/\zr8 p s (tr8 ts i)<=250000:=by
 obtain ⟨K,_⟩:=zws H hT hi;obtain ⟨_,h⟩:=zot (p:=p) hT hi;have:=K.l1;have:=K.l2;unfold zr8;omega
theorem zzj {V:Type} {v:V} {i:Nat} (hi:i<ts.length) {x:Int} (hx:x=znA p (ln0 s (tr8 ts i).1.toNat) (zg8 (ln0 s (tr8 ts i).1.toNat) (tr8 ts i).2.1)):cond (tr8 ts i).2.1 (cond (decide (w64 ((tr8 ts i).2.2.2.1+x)>200000)) (some (.inr (.inr v))) (Zb (zcL 32 (rlN i λi=>zkH p s (tr8 ts i)) ([(w64 (w64 (2*(tr8 ts i).1)+1),w64 (2*(tr8 ts i).1),(tr8 ts i).2.2.2.1,w64 ((tr8 ts i).2.2.2.1+x),())])) λx95=>some (.inl (x95,w64 ((i:Int)+1))))) (cond (decide (w64 ((tr8 ts i).2.2.2.1+x)>200000)) (some (.inr (.inr v))) (Zb (zcL 32 (rlN i λi=>zkH p s (tr8 ts i)) ([((w64 (2*(tr8 ts i).1),w64 (w64 (2*(tr8 ts i).1)+1),(tr8 ts i).2.2.2.1,w64 ((tr8 ts i).2.2.2.1+x),()):Task)])) λx98=>some (.inl (x98,w64 ((i:Int)+1)))))=some (if inT p s ts i=true then Sum.inl (rlN (i+1) (λi=>zkH p s (tr8 ts i)),((i+1:Nat):Int)) else .inr (.inr v:List Task⊕V)):=by
 subst hx;have hb:=zwt H hT hi;obtain ⟨⟨a,b⟩,_⟩:=zot (p:=p) hT hi;have hn:=H.n;have ht:=H.t;have hlen:(rlN i λi=>zkH p s (tr8 ts i)).length=i:=zfF _ _;have e0:(tr8 ts i).2.2.2.1+znA p (ln0 s (tr8 ts i).1.toNat) (zg8 (ln0 s (tr8 ts i).1.toNat) (tr8 ts i).2.1)=zr8 p s (tr8 ts i):=rfl;rw [e0,zk (n:=zr8 p s (tr8 ts i)) (by omega) (by omega),zk (n:=2*(tr8 ts i).1) (by omega) (by omega),zk (n:=2*(tr8 ts i).1+1) (by omega) (by omega),zG (by omega)];have hap:∀ y:Task,zcL 32 (rlN i λi=>zkH p s (tr8 ts i)) [y]=some ((rlN i λi=>zkH p s (tr8 ts i))++[y]):=λy=>za8 (by rw [hlen]; simp only [List.length_cons,List.length_nil]; omega);rw [hap,hap,zjx];unfold inT;have e1:zkH p s (tr8 ts i)=cond (tr8 ts i).2.1 (2*(tr8 ts i).1+1,2*(tr8 ts i).1,(tr8 ts i).2.2.2.1,zr8 p s (tr8 ts i),()) (2*(tr8 ts i).1,2*(tr8 ts i).1+1,(tr8 ts i).2.2.2.1,zr8 p s (tr8 ts i),()):=rfl;rw [e1];cases (tr8 ts i).2.1<;>cases decide (zr8 p s (tr8 ts i)>200000)<;>rfl
theorem zwu:zel p s ts=some (if inA p s ts=true then (zpm p s ts,decide (zl ts<=60)) else ([],false)):=by
 unfold zel;have hp:=zeG H.O.v;have ht:=H.t;rw [zuy (n:=ts.length) (B:=inT p s ts) (f:=λi=>zkH p s (tr8 ts i)) (v:=(([],false):List Task×Bool)) (by omega) (λi hi=>?_) (by simp only [zV,cond_false]),Zs]
 . show alt _ _ (if inA p s ts=true then _ else _)=_;cases inA p s ts<;>rfl
 . obtain ⟨K,hI,hl,hx⟩:=zws H hT hi;simp only [zM hi,cond_true];rw [zy T08 hi,Zs];show Zb (idx s.1 (tr8 ts i).1) _=_;rw [hx,Zs];show Zb (zaQ p (ln0 s (tr8 ts i).1.toNat) (tr8 ts i).2.1) _=_;rw [zky hp (hI.c H.O.v (tr8 ts i).2.1) K,Zs,zkx K,Zs];exact zzj H hT hi rfl
end
theorem zxV {s:Service} {ts:List Trip} (hs:s.1.length<=2) (hn:ts.length<=100) (hl:0<=zl s.1-1\/zl s.1=0):zek s ts=some (zim s ts):=by
 unfold zek;have hw:w64 (zl s.1-1)=zl s.1-1:=by rw [zx]; exact zk (by omega) (by omega)
 rw [zr7 (n:=ts.length) (B:=zp1 s ts) (v:=false) (by omega) (λi hi=>?_) (by simp only [zV,cond_false]),Zs]
 . show alt _ _ (if zim s ts=true then _ else _)=_;cases zim s ts<;>rfl
 . simp only [zM hi,cond_true,hw,zzi,Zs];rw [zy T08 hi];simp only [Zs,zzi];exact zxU hs hn hi rfl rfl
theorem zxW {p:Plan} {s:Service} {ts:List Trip} (I:zwE p s) (hs:s.1.length<=2) (hn:ts.length<=100):zeT p s ts=some (if (zr5 p s&&zim s ts)=true then (if (inA p s ts&&decide (zl ts<=60))=true then (zpm p s ts,0) else ([],3)) else ([],2)):=by
 unfold zeT;rw [zr6 I,Zs];cases hv:zr5 p s with
 | false=>rfl
 | true=>
 have O:=zxR hv;have H:Sv8 p s ts:=⟨I,O,hs,hn⟩;have hw:w64 (zl s.1-1)=zl s.1-1:=by rw [zx]; exact zk (by omega) (by omega)
 simp only [if_true,show ((0:Int)!=0)=false from rfl,cond_false,Bool.true_and];rw [zr7 (n:=ts.length) (B:=zp1 s ts) (v:=(([],2):List Task×Int)) (by omega) (λi hi=>?_) (by simp only [zV,cond_false]),Zs];rotate_left
 . simp only [zM hi,cond_true,hw];rw [zy T08 hi];simp only [Zs,zwr];exact zxU hs hn hi rfl rfl
 show alt _ _ (if zim s ts=true then _ else _)=_;cases hT:zim s ts with
 | false=>rfl
 | true=>
 simp only [if_true,zbC];by_cases hl:zl ts<=60
 . rw [decide_eq_false (show ¬ zl ts>60 by omega),cond_false,decide_eq_true hl,Bool.and_true];rw [zuy (n:=ts.length) (B:=inT p s ts) (f:=λi=>zkH p s (tr8 ts i)) (v:=(([],3):List Task×Int)) (by omega) (λi hi=>?_) (by simp only [zV,cond_false]),Zs]
   . show alt _ _ (if inA p s ts=true then _ else _)=_;cases inA p s ts<;>rfl
   . obtain ⟨K,hI,hln,hx⟩:=zws H hT hi;simp only [zM hi,cond_true];rw [zy T08 hi,Zs];show Zb (idx s.1 (tr8 ts i).1) _=_;rw [hx,Zs];show Zb (zbP p (ln0 s (tr8 ts i).1.toNat) (tr8 ts i).2.1) _=_;rw [zt4 hI,hln,O.v,Zs];simp only [Bool.and_self,if_true,show ((0:Int)!=0)=false from rfl,cond_false];rw [zkx K,Zs];exact zzj H hT hi rfl
 . rw [decide_eq_true (show zl ts>60 by omega),cond_true,decide_eq_false hl,Bool.and_false];rfl
structure LnB (l:Line):Prop where
 w1:l.1.1.length<=9223372036854775807
 s1:l.1.2.1.length<=9223372036854775807
 w2:l.2.1.1.length<=9223372036854775807
 s2:l.2.1.2.1.length<=9223372036854775807
theorem zxX {p:Plan} {l:Line} (h:LnB l):zsk p l:=by
 have hb:∀ way:List zR,zbe p=true->zkA p way=true->wlS p way<=62000000000:=by
  intro way hv hw;have W:=ziP hw;have:=zyQ (zeG hv) W;have:=W.n;omega
 exact ⟨h.w1,h.s1,h.w2,h.s2,hb _,hb _⟩
theorem zpn {A:Prop} [Decidable A] {x:Option Bool} {Q:Prop} (h:∃ b,x=some b/\(b=true->Q)):∃ b,cond (decide A) x (some false)=some b/\(b=true->A/\Q):=by
 by_cases hA:A
 . rw [decide_eq_true hA];obtain ⟨b,h1,h2⟩:=h;exact ⟨b,h1,λhb=>⟨hA,h2 hb⟩⟩
 . rw [decide_eq_false hA];exact ⟨false,rfl,λh=>by cases h⟩
theorem zp2 (p:Plan) (s:Service):∃ b,zeb p s=some b/\(b=true->s.1.length<=2/\s.2.1.length<=3):=by
 unfold zeb;obtain ⟨b,h1,h2⟩:=zpn (A:=zl p.2.1<=8) (zpn (A:=zl p.1<=10) (zpn (A:=zl s.1<=2) (zpn (A:=zl s.2.1<=3) (Q:=zl s.2.2.1<=3) ⟨_,rfl,λh=>of_decide_eq_true h⟩)));refine ⟨b,by rw [h1]; rfl,λhb=>?_⟩;obtain ⟨_,_,a,c,_⟩:=h2 hb;rw [zx] at a c;exact ⟨by omega,by omega⟩
theorem zp3 (hk:zb7=some true) (p:Plan) (s:Service) (ts:List Trip) (hs:∀ i,i<s.1.length->LnB (ln0 s i)):zcz p s ts=some true:=by
 unfold zcz;obtain ⟨b,e,q⟩:=zp2 p s;rw [e,Zs,hk];cases b with
 | false=>rfl
 | true=>
 obtain ⟨h1,h2⟩:=q rfl;rw [Bool.not_true,cond_false,Zs];by_cases ht:zl ts>100
 . rw [decide_eq_true ht]; rfl
 have hn:ts.length<=100:=by rw [zx] at ht; omega
 have I:zwE p s:=⟨by omega,by omega,λi hi=>zxX (hs i hi)⟩;rw [decide_eq_false ht,cond_false,zxW I h1 hn,Zs,zos I,Zs];cases hv:zr5 p s with
 | false=>rfl
 | true=>
 have H:Sv8 p s ts:=⟨I,zxR hv,h1,hn⟩;rw [Bool.not_true,cond_false,zxV h1 hn (by rw [zx]; omega),Zs,Zs,Bool.true_and];cases hT:zim s ts with
 | false=>rfl
 | true=>
 rw [Bool.not_true,cond_false,zwu H hT,Zs];cases inA p s ts with
 | false=>rfl
 | true=>
 simp only [if_true,Bool.true_and];cases decide (zl ts<=60) with
 | false=>rfl
 | true=>
 have hlen:(zpm p s ts).length=ts.length:=zfF _ _;simp only [if_true,Bool.not_true,cond_false,show ((0:Int)!=0)=false from rfl,Zs,bne_self_eq_false];rw [zr7 (n:=(zpm p s ts).length) (B:=λ_=>true) (v:=false) (by omega) (λi hi=>?_) (by simp only [zV,cond_false]),Zs]
 . simp; rfl
 . simp only [zM hi,cond_true];rw [zf0,List.getElem?_eq_getElem hi];simp only [Zs,bne_self_eq_false,cond_false,if_true];rw [zG (by omega)]
end Go.Ai.Sx
/- The examples of the chapter of duties,settled by the kernel over the printed functions. -/
namespace Go.Ai.Sx
open Option renaming bind->Zb,bind_some->Zs
theorem zp4:zb7=some true:=by kernel_rfl
end Go.Ai.Sx
/- DutyTrips: the law,with the chapter's examples settled. -/
namespace Go.Ai.Sx
open Option renaming bind->Zb,bind_some->Zs
theorem zp5 (p:Plan) (s:Service) (ts:List Trip) (hs:∀ i,i<s.1.length->LnB (ln0 s i)):zcz p s ts=some true:=zp3 zp4 p s ts hs
end Go.Ai.Sx