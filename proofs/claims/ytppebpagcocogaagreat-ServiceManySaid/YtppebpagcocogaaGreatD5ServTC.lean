/- Service: a day with too many trips. -/
import Derived.Test.YtppebpagcocogaaGreatT16
set_option linter.unusedSimpArgs false
set_option linter.unusedVariables false
set_option linter.unusedSectionVars false
namespace Go.Ai.Sx
open Option renaming bind->Zb,bind_some->Zs
def zhA (l:Line) (h:Int):Service:=([l],[h],[0],())
theorem zyW {p:Plan} {l:Line} {h:Int} (I:zpo p l):zqk p (zhA l h):=
 ⟨by simp [zhA],by simp [zhA],λi hi=>by
  have:i=0:=by simp [zhA] at hi; omega
  subst this;exact I⟩
theorem zyX {p:Plan} {l:Line} {h:Int} (hv:zaN p=true) (hl:zdO p l=true) (hh:30<=h/\h<=7200):zsY p (zhA l h):=by
 have h0:∀ i,i<(zhA l h).1.length->i=0:=λi hi=>by simp [zhA] at hi; omega
 refine ⟨hv,by simp [zhA],rfl,rfl,λi hi=>?_,λi hi=>?_,λi hi=>?_⟩
 . rw [h0 i hi]; exact hl
 . rw [h0 i hi]; exact hh
 . rw [h0 i hi];show (0:Int)<=0/\(0:Int)<=h-1;omega
theorem zsP {p:Plan} {s:Service} {i:Nat} {home:Bool} {from_:Int} (n:Nat):(trN p s [] i home from_ n).length=n:=by
 unfold trN;rw [List.length_map,show (List.range n).filter (zuR p s i home from_ [])=List.range n from List.filter_eq_self.2 (λj _=>rfl),List.length_range]
theorem zuU (hk:zaS=some true) {p:Plan} {l:Line} (hs:zcq 21000=some (p,l)) (I:zpo p l) (hv:zaN p=true) (hlb:zdO p l=true) (hO:zhh (msC p l l.1) l.1=[0,25,30]) (hX:zhh (msC p l l.2.1) l.2.1=[0,15,20]) (h0:zct p l l.1=30) (h1:zct p l l.2.1=20) (h u:Int):zb9 h u=some true:=by
 unfold zb9;obtain ⟨c4,g1,g2⟩:∃ c4,(cond (decide (h<30)) (some true) (cond (decide (h>200)) (some true) (cond (decide (u<100000)) (some true) (some (decide (u>200000))))))=some c4/\(c4=false↔((30<=h/\h<=200)/\100000<=u/\u<=200000)):=by
  have hz:∃ b,(some (decide (u>200000)):Option Bool)=some b/\(b=false↔¬ u>200000):=⟨_,rfl,by simp⟩;obtain ⟨b,h1,h2⟩:=zsv (A:=h<30) (zsv (A:=h>200) (zsv (A:=u<100000) hz));refine ⟨b,h1, ?_⟩;rw [h2];omega
 rw [g1,Zs,hk];cases c4 with
 | true=>rfl
 | false=>
 obtain ⟨hh,hu⟩:=g2.1 rfl;have H:=zyW (h:=h) I;have V:=zyX hv hlb (h:=h) (by omega);have hi:0<(zhA l h).1.length:=by simp [zhA]
 have K:zqj p l:=zuJ I hv hlb;have r0:=zyM V H hi false;have r1:=zyM V H hi true;rw [show zaa p (ln0 (zhA l h) 0) false=zaa p l false from rfl,show zhh (msC p (ln0 (zhA l h) 0) (zcW (ln0 (zhA l h) 0) false)) (zcW (ln0 (zhA l h) 0) false)=zhh (msC p l l.1) l.1 from rfl,hO] at r0;rw [show zaa p (ln0 (zhA l h) 0) true=zaa p l true from rfl,show zhh (msC p (ln0 (zhA l h) 0) (zcW (ln0 (zhA l h) 0) true)) (zcW (ln0 (zhA l h) 0) true)=zhh (msC p l l.2.1) l.2.1 from rfl,hX] at r1;have rB:=zpu V H hi true;rw [show zbO p (zhA l h) ((0:Nat):Int) true=zbO p ([l],[h],[0],()) 0 true from rfl,show zfI p (ln0 (zhA l h) 0) true (hd0 (zhA l h) 0) (of0 (zhA l h) 0)=zfI p l true h 0 from rfl] at rB;have hbb:=znv K (h:=h) (o:=0) (by omega) (by omega) true;have hm1:=Int.emod_nonneg (zfI p l true h 0) (show h≠0 by omega);have hm2:=Int.emod_lt_of_pos (zfI p l true h 0) (show 0<h by omega);have d0:zcr .i64 (w64 (u-30)) h=some ((u-30)/h):=by rw [ze (by omega) (by omega),zbQ ⟨by omega,by omega⟩ (by omega)]
 have d1:zcr .i64 (w64 (w64 (u-20)-zfI p l true h 0%h)) h=some ((u-20-zfI p l true h 0%h)/h):=by rw [ze (n:=u-20) (by omega) (by omega),ze (by omega) (by omega),zbQ ⟨by omega,by omega⟩ (by omega)]
 have q0:0<=(u-30)/h/\(u-30)/h<=200000:=zhV ⟨by omega,by omega⟩ (by omega);have q1:0<=(u-20-zfI p l true h 0%h)/h/\(u-20-zfI p l true h 0%h)/h<=200000:=zhV ⟨by omega,by omega⟩ (by omega);obtain ⟨M,m1,m2,m3⟩:=znw V H (w:=[]) (from_:=0) (until_:=u) (by omega) (by omega) (by rfl);have t0:((trC p (zhA l h) 0 false 0 u:Nat):Int)=(u-30)/h+1:=by
  have e:trC p (zhA l h) 0 false 0 u=((u-zct p l l.1-zeU p l false h 0 0 0)/h+1).toNat:=rfl;have hd:=zgM K (h:=h) (o:=0) (from_:=0) (by omega) (by omega) (by omega) false;have hb:zfI p l false h 0=0:=rfl;rw [hb] at hd;rw [e,← hd,h0,show (0:Int)+(0-0)%h=0 by simp,Int.sub_zero];omega
 have t1:((trC p (zhA l h) 0 true 0 u:Nat):Int)=(u-20-zfI p l true h 0%h)/h+1:=by
  have e:trC p (zhA l h) 0 true 0 u=((u-zct p l l.2.1-zeU p l true h 0 0 0)/h+1).toNat:=rfl;have hd:=zgM K (h:=h) (o:=0) (from_:=0) (by omega) (by omega) (by omega) true;rw [e,← hd,h1,Int.sub_zero,Int.zero_add];omega
 have hlen:(M.length:Int)=((u-30)/h+1)+((u-20-zfI p l true h 0%h)/h+1):=by
  rw [m3.len];have e:zov p (zhA l h) [] 0 u=trL p (zhA l h) [] 0 u 0 false++trL p (zhA l h) [] 0 u 0 true:=by
   unfold zov;rw [show (zhA l h).1.length=0+1 from rfl,zgQ,List.flatten_append,List.flatten_append];simp [zki]
  rw [e,List.length_append];unfold trL;rw [zsP,zsP,Int.natCast_add,t0,t1]
 have hT:zaY p ([l],[h],[0],()) [] 0 u=some (if (M.length:Int)>5000 then ([],3) else (M,0)):=m1;simp only [cond_false,hs,Zs,r0,r1,show idx [(0:Int),25,30] 2=some 30 from rfl,show idx [(0:Int),15,20] 2=some 20 from rfl,d0,rB,zot (show 0<h by omega) (show h<=1000000000000 by omega),d1,hT];have hsum:w64 (w64 ((u-30)/h+1)+w64 ((u-20-zfI p l true h 0%h)/h+1))=(M.length:Int):=by
  rw [hlen,ze (n:=(u-30)/h+1) (by omega) (by omega),ze (n:=(u-20-zfI p l true h 0%h)/h+1) (by omega) (by omega),ze (by omega) (by omega)]
 rw [hsum];by_cases h5:(M.length:Int)>5000
 . rw [decide_eq_true h5,if_pos h5];rfl
 . rw [decide_eq_false h5,if_neg h5];simp only [cond_false,show ((0:Int)==0)=true from rfl,cond_true,zu,beq_self_eq_true,Zs]
theorem zuV (h u:Int):zb9 h u=some true:=zuU zvx znA sI sv zqc ko kx zAt zAu h u
end Go.Ai.Sx