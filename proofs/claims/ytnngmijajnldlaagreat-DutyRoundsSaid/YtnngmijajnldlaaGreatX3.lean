/- An abstract interpreter for the model's code: an operation and the heap's low mark. -/
import Derived.Test.YtnngmijajnldlaaGreatX2
import Derived.ChangeArms
import Derived.ChangeShapes
import Derived.WideShapes
import Derived.RowKit
import Derived.IntWalk
set_option linter.unusedSimpArgs false
set_option linter.unusedVariables false
set_option linter.unusedSectionVars false
open Option renaming some→Ob,none→Oe
open Bool renaming false→Oc,true→Od
open Option renaming bind->Zb,bind_some->Zs
namespace Go.Ai
def lay (h:za) (x:Nat):za:={ h with wm:=x }
def Wm (h h1:za) (x:Nat) (h2:za):Prop:=∃ y,h1.wm=min h.wm y/\h2=lay h1 (min x y)
section
variable {T:Tab} {h h1:za} {x:Nat}
theorem Wm.refl:Wm h h x (lay h x):=⟨max h.wm x,by omega,by rw [Nat.min_eq_left (Nat.le_max_right ..)]⟩
theorem Wm.push (b:zfS):Wm h (h.push b) x ((lay h x).push b):=⟨max h.wm x,by simp only [za.push]; omega,by rw [Nat.min_eq_left (Nat.le_max_right ..)]; rfl⟩
theorem Wm.set (k:Nat) (b:zfS):Wm h (h.set k b) x ((lay h x).set k b):=⟨k,rfl,rfl⟩
theorem Wm.move (k:Nat) (a b:zfS):Wm h ((h.set k a).push b) x (((lay h x).set k a).push b):=⟨k,rfl,rfl⟩
theorem zmq (b:Nat):(lay h x).get b=h.get b:=rfl
theorem zmr:(lay h x).next=h.next:=rfl
theorem zrO {es n:Nat} {v:zd}:arow es n v (lay h x)=arow es n v h:=rfl
theorem zrP {t:TypeId} {a v:zd}:astore T t h a v=Ob h1->∃ h2,astore T t (lay h x) a v=Ob h2/\Wm h h1 x h2:=by
 unfold astore;simp only [zmq];repeat' split
 all_goals (intro hl; cases hl; try exact ⟨_,rfl,Wm.set ..⟩)
theorem zkj {elem:TypeId} {len n:Nat} {cap:Option Nat} {parts:List (Nat×zd)} {v:zd}:zc8 T elem len cap n h parts=Ob (v,h1)->∃ h2,zc8 T elem len cap n (lay h x) parts=Ob (v,h2)/\Wm h h1 x h2:=by
 unfold zc8;simp only [zmr];repeat' split
 all_goals (intro hl; cases hl; try exact ⟨_,rfl,Wm.push ..⟩)
theorem zii {t:TypeId} {m k v:zd}:zbB T t m k v h=Ob h1->∃ h2,zbB T t m k v (lay h x)=Ob h2/\Wm h h1 x h2:=by
 unfold zbB;simp only [zmq];repeat' split
 all_goals (intro hl; cases hl; try exact ⟨_,rfl,Wm.set ..⟩)
theorem zun {ts:Array TypeId} {d s v:zd}:acopy T ts d s h=Ob (v,h1)->∃ h2,acopy T ts d s (lay h x)=Ob (v,h2)/\Wm h h1 x h2:=by
 unfold acopy;simp only [zmq,zrO];repeat' split
 all_goals (intro hl; cases hl<;>first | exact ⟨_,rfl,Wm.refl⟩ | exact ⟨_,rfl,Wm.set ..⟩)
theorem zrQ {st xt:TypeId} {s z v:zd}:azeros T st xt s z h=Ob (v,h1)->∃ h2,azeros T st xt s z (lay h x)=Ob (v,h2)/\Wm h h1 x h2:=by
 unfold azeros;simp only [zmr];repeat' split
 all_goals (intro hl; cases hl<;>exact ⟨_,rfl,Wm.push ..⟩)
theorem zqC {ts:Array TypeId} {s z v:zd}:aappend T ts s z h=Ob (v,h1)->∃ h2,aappend T ts s z (lay h x)=Ob (v,h2)/\Wm h h1 x h2:=by
 unfold aappend;simp only [zmq,zrO,zmr];repeat' split
 all_goals first | exact zrQ | (intro hl; cases hl<;>first | exact ⟨_,rfl,Wm.refl⟩ | exact ⟨_,rfl,Wm.set ..⟩ | exact ⟨_,rfl,Wm.push ..⟩ | exact ⟨_,rfl,Wm.move ..⟩)
theorem zgb {y:Option zd} {v:zd} (e:z6 h y=Ob (.val v h1)):∃ h2,z6 (lay h x) y=Ob (.val v h2)/\Wm h h1 x h2:=by
 obtain ⟨rfl,rfl⟩:=zD e;exact ⟨_,rfl,Wm.refl⟩
theorem zzb {ev:Operand->zd} {o:Op} {v:zd} (hl:aop T ev h o=Ob (.val v h1)):∃ h2,aop T ev (lay h x) o=Ob (.val v h2)/\Wm h h1 x h2:=by
 have pair:∀ {y y':Option (zd×za)},zf0 y=Ob (.val v h1)->(y=Ob (v,h1)->∃ h2,y'=Ob (v,h2)/\Wm h h1 x h2)->∃ h2,zf0 y'=Ob (.val v h2)/\Wm h h1 x h2:=by
  intro y y' e k;obtain ⟨h2,rfl,w⟩:=k (zbC e);exact ⟨h2,rfl,w⟩
 have heap:∀ {y y':Option za},zgt y=Ob (.val v h1)->(y=Ob h1->∃ h2,y'=Ob h2/\Wm h h1 x h2)->∃ h2,zgt y'=Ob (.val v h2)/\Wm h h1 x h2:=by
  intro y y' e k;obtain ⟨e1,rfl⟩:=zcD e;obtain ⟨h2,rfl,w⟩:=k e1;exact ⟨h2,rfl,w⟩
 cases o<;>simp only [aop] at hl ⊢<;>(try (cases hl; done))<;>(try exact zgb hl)
 case move=>cases hl; exact ⟨_,rfl,Wm.refl⟩
 case assign=>cases hl; exact ⟨_,rfl,Wm.refl⟩
 case pick=>revert hl; unfold zh9; split<;>intro hl<;>cases hl; exact ⟨_,rfl,Wm.refl⟩
 case alloc=>revert hl; unfold zf1; split<;>intro hl<;>cases hl; exact ⟨_,rfl,Wm.push ..⟩
 case box=>revert hl; unfold zj1; split<;>intro hl<;>cases hl; exact ⟨_,rfl,Wm.push ..⟩
 case buildSlice=>
  refine pair hl ?_;unfold zd3;repeat' split
  all_goals first | exact zkj | (intro q; cases q; done)
 case store=>exact heap hl zrP
 case nilCheck=>revert hl; unfold zdz; split<;>intro hl<;>cases hl<;>exact ⟨_,rfl,Wm.refl⟩
 case makeInterface=>revert hl; unfold zcP; split<;>intro hl<;>cases hl; exact ⟨_,rfl,Wm.refl⟩
 case makeFunc=>revert hl; unfold zdA; split<;>intro hl<;>cases hl; exact ⟨_,rfl,Wm.refl⟩
 case makeMap=>revert hl; unfold zeT; split<;>intro hl<;>cases hl; exact ⟨_,rfl,Wm.push ..⟩
 case makeSlice=>
  refine pair hl ?_;unfold zeD;repeat' split
  all_goals first | exact zkj | (intro q; cases q; done)
 case mapUpdate=>exact heap hl zii
 case insert=>exact heap hl zii
 case extract=>
  revert hl; unfold zfy;split
  . intro hl; exact zgb hl
  . intro hl; cases hl
 case call c=>
  revert hl; unfold zc1;split
  . unfold abuiltin;split
    . split
      . intro hl; exact zgb hl
      . intro hl; cases hl
    . split
      . intro hl; exact zgb hl
      . intro hl; cases hl
    . intro hl; exact pair hl zqC
    . intro hl; exact pair hl zun
    . intro hl; exact zgb hl
    . intro hl; exact zgb hl
    . intro hl; cases hl
  . intro hl; cases hl
  . intro hl; cases hl
structure Quiet (h h':za):Prop where
 next:h.next<=h'.next
 same:∀ b,b<h.next->h'.get b=h.get b
 wm:min h.wm h.next<=h'.wm
 ok:h.wm<=h.next->h'.wm<=h'.next
theorem Quiet.refl (h:za):Quiet h h:=⟨Nat.le_refl _,λ_ _=>rfl,Nat.min_le_left _ _,id⟩
theorem Quiet.set {h0 h:za} (q:Quiet h0 h) (b:Nat) (x:zfS) (hb:h0.next<=b):Quiet h0 (h.set b x):=by
 refine ⟨q.next,λk hk=>?_, ?_,λk=>?_⟩
 . rw [za.get_set,if_neg J]; exact q.same k hk
 . show min h0.wm h0.next<=min h.wm b;have:=q.wm; omega
 . have:=q.ok k;show min h.wm b<=h.next;omega
theorem Quiet.get {h h':za} (q:Quiet h h') {b:Nat} {x:zfS} (hg:h.get b=Ob x) (hb:b<h.next):h'.get b=Ob x:=by rw [q.same b hb]; exact hg
theorem zrR {ops rest:List Oper} {o:Oper} {i:Nat} {done:List (Nat×Foot)} {fr:zi} {Q:zi->za->Prop} {v:zd} {f:Foot} (hw:awanted ops fr o.guard=Ob Od) (ha:aop T fr.op h o.op=Ob (.val v h1)) (hwm:h.wm<=h.next)
 (hf:foot fr.op o=f) (hk:zcC ops i f done=Od) (r:Draw T ops rest (i+1) ((i,f)::done) (putDst fr o.dst v) h1 Q):Draw T ops (o::rest) i done fr h Q:=by
 obtain ⟨h2,e1,y,e2,e3⟩:=zzb (x:=h.next) ha;refine zum hw e1 hf (by rw [← hf]; exact (zml ha).1) hk ?_;have e4:({ h2 with wm:=min h.wm h2.wm }:za)=h1:=by
  subst e3;show ({ h1 with wm:=min h.wm (min h.next y) }:za)=h1;have:min h.wm (min h.next y)=h1.wm:=by rw [e2]; omega
  rw [this]
 rw [e4];exact r
theorem zkk {ops rest:List Oper} {o:Oper} {i:Nat} {done:List (Nat×Foot)} {fr:zi} {Q:zi->za->Prop} {f:zd} {vs:List zd} (hw:awanted ops fr o.guard=Ob Od) (ha:aop T fr.op h o.op=Ob (.call f vs)) (hwm:h.wm<=h.next)
 (hk:zcC ops i ⟨[],Od,[],Oc⟩ done=Od)
 (r:zjy T f vs { h with wm:=h.next } λr h1=>∃ v,r=.ret v/\Quiet { h with wm:=h.next } h1/\Draw T ops rest (i+1) ((i,⟨[],Od,[],Oc⟩)::done) (putDst fr o.dst v) { h1 with wm:=min h.wm h1.wm } Q):Draw T ops (o::rest) i done fr h Q:=by
 obtain ⟨n,r,h1,h2,v,rfl,q,m,fr',h3,h4,h5⟩:=r;have ha':aop T fr.op { h with wm:=h.next } o.op=Ob (.call f vs):=by
  obtain ⟨c,fo,ho,hc,e1,e2⟩:=zc2 ha;rw [ho];simp only [aop,zc1,hc,e1,e2]
 have hq:Nat.ble h.next h1.wm=Od:=by
  have:=q.wm;simp at this;exact Nat.ble_eq_true_of_le this
 have e:zfT (foot fr.op o) h h1=⟨[],Od,[],Oc⟩:=by rw [zig ha]; unfold zfT; simp [hq]
 refine ⟨max n m,fr',h3, ?_,h5⟩;have c1:=zgz (T:=T) (zdZ (Nat.le_max_left n m)) _ _ _ _ h2;have c2:=zih (T:=T) (zgz (zdZ (Nat.le_max_right n m))) _ _ _ _ _ _ h4;simp only [adraw,hw,astep,ha',c1,e,hk,cond_true];exact c2
end
structure zrh (h h':za):Prop where
 next:h.next<=h'.next
 same:∀ b,b<h.next->h'.get b=h.get b
 wm:h.wm<=h.next->h'.wm<=h'.next
theorem zrh.refl (h:za):zrh h h:=⟨Nat.le_refl _,λ_ _=>rfl,id⟩
theorem zrh.trans {a b c:za} (h:zrh a b) (h':zrh b c):zrh a c:=
 ⟨Nat.le_trans h.next h'.next,λk hk=>(h'.same k (Nat.lt_of_lt_of_le hk h.next)).trans (h.same k hk),λq=>h'.wm (h.wm q)⟩
theorem zrh.push (h:za) (x:zfS):zrh h (h.push x):=
 ⟨by simp [za.next_push],λb hb=>by rw [za.get_push,if_neg J],λq=>Nat.le_succ_of_le q⟩
def Store:Type:=Nat->Option zfS
def Store.le (z z':Store):Prop:=∀ b x,z b=Ob x->z' b=Ob x
theorem Store.le.refl (z:Store):z.le z:=λ_ _ h=>h
theorem Store.le.trans {a b c:Store} (h:a.le b) (h':b.le c):a.le c:=λk x hk=>h' k x (h k x hk)
def za.st (h:za):Store:=λb=>if b<h.next then h.get b else Oe
theorem za.st_lt {h:za} {b:Nat} {x:zfS} (e:h.st b=Ob x):b<h.next/\h.get b=Ob x:=by
 unfold za.st at e;split at e
 . exact ⟨by assumption,e⟩
 . cases e
theorem za.st_of {h:za} {b:Nat} {x:zfS} (hb:b<h.next) (e:h.get b=Ob x):h.st b=Ob x:=by
 unfold za.st; rw [if_pos hb]; exact e
theorem zrh.st {h h':za} (e:zrh h h'):h.st.le h'.st:=λb x hb=>by
 obtain ⟨h1,h2⟩:=za.st_lt hb;exact za.st_of (Nat.lt_of_lt_of_le h1 e.next) (by rw [e.same b h1]; exact h2)
structure Rep (A:Type) where
 sz:Nat
 agg:Bool
 rel:Store->List zd->A->Prop
 len:∀ z cs x,rel z cs x->cs.length=sz
 mono:∀ z z' cs x,z.le z'->rel z cs x->rel z' cs x
 one:agg=Oc->sz=1
 ones:∀ z cs x,rel z cs x->cs.all zd.one=Od
def zh (k:IntKind):Rep Int:=
 ⟨1,Oc,λ_ cs x=>cs=[.int k x]/\k.min<=x/\x<=k.max,λ_ _ _ h=>by rw [h.1]; rfl,λ_ _ _ _ _ h=>h,λ_=>rfl,λ_ _ _ h=>by rw [h.1]; rfl⟩
def zw:Rep Bool:=⟨1,Oc,λ_ cs x=>cs=[.bool x],λ_ _ _ h=>by rw [h]; rfl,λ_ _ _ _ _ h=>h,λ_=>rfl,λ_ _ _ h=>by rw [h]; rfl⟩
def zg0 {A:Type} (R:Rep A) (z:Store) (v:zd) (xs:List A):Prop:=
 xs.length<=maxLen/\((v=.nsz/\xs=[])\/(∃ b off cap,v=.slice b off 0 R.sz cap/\xs=[]/\z b=Ob .dead) \/
  ∃ b off cap cells ro,v=.slice b off xs.length R.sz cap/\z b=Ob (.arr cells ro)/\off+xs.length*R.sz<=cells.length/\(∀ c,cap=Ob c->xs.length<=c) /\
   ∀ i x,xs[i]?=Ob x->R.rel z ((cells.drop (off+i*R.sz)).take R.sz) x)
theorem zg0.mono {A:Type} {R:Rep A} {z z':Store} {v:zd} {xs:List A} (e:z.le z') (r:zg0 R z v xs):zg0 R z' v xs:=by
 obtain ⟨r0,r⟩:=r;refine ⟨r0, ?_⟩;rcases r with r | ⟨b,off,cap,r1,r2,r4⟩ | ⟨b,off,cap,cells,ro,r1,r3,r4,r6,r5⟩
 . exact .inl r
 . exact .inr (.inl ⟨b,off,cap,r1,r2,e _ _ r4⟩)
 . exact .inr (.inr ⟨b,off,cap,cells,ro,r1,e _ _ r3,r4,r6,λi x hx=>R.mono _ _ _ _ e (r5 i x hx)⟩)
theorem zg0.one {A:Type} {R:Rep A} {z:Store} {v:zd} {xs:List A} (r:zg0 R z v xs):v.one=Od:=by
 rcases r.2 with ⟨rfl,_⟩ | ⟨b,off,cap,rfl,_⟩ | ⟨b,off,cap,cells,ro,rfl,_⟩<;>rfl
def zb {A:Type} (R:Rep A):Rep (List A):=
 ⟨1,Oc,λz cs xs=>∃ v,cs=[v]/\zg0 R z v xs,λ_ _ _ h=>by obtain ⟨v,h,_⟩:=h; rw [h]; rfl,λ_ _ _ _ e h=>let ⟨v,h1,h2⟩:=h; ⟨v,h1,h2.mono e⟩,
  λ_=>rfl,λ_ _ _ h=>by obtain ⟨v,h,r⟩:=h; rw [h]; simp [r.one]⟩
def zcE:Rep Unit:=⟨0,Od,λ_ cs _=>cs=[],λ_ _ _ h=>by rw [h]; rfl,λ_ _ _ _ _ h=>h,λh=>(by cases h),λ_ _ _ h=>by rw [h]; rfl⟩
def zC {A B:Type} (R:Rep A) (S:Rep B):Rep (A×B):=
 ⟨R.sz+S.sz,Od,λz cs x=>∃ c1 c2,cs=c1++c2/\R.rel z c1 x.1/\S.rel z c2 x.2,
  λh cs x r=>by obtain ⟨c1,c2,rfl,r1,r2⟩:=r; rw [List.length_append,R.len _ _ _ r1,S.len _ _ _ r2],
  λ_ _ _ _ e r=>let ⟨c1,c2,r0,r1,r2⟩:=r; ⟨c1,c2,r0,R.mono _ _ _ _ e r1,S.mono _ _ _ _ e r2⟩,
  λh=>(by cases h),λz cs x r=>by obtain ⟨c1,c2,rfl,r1,r2⟩:=r; rw [List.all_append,R.ones _ _ _ r1,S.ones _ _ _ r2]; rfl⟩
def znv (G:Emb) (h:za):Prop:=∀ b l,G b=Ob l->¬ Owns h b
structure Lay (W:World) (G:Emb) (h:za) (G':Emb) (h':za):Prop where
 ext:Ext G G'
 heap:zeV W.heap.size G' h' W
 none:znv G' h'
 grow:zrh h h'
theorem Lay.trans {W:World} {G G1 G2:Emb} {h h1 h2:za} (a:Lay W G h G1 h1) (b:Lay W G1 h1 G2 h2):Lay W G h G2 h2:=
 ⟨a.ext.trans b.ext,b.heap,b.none,a.grow.trans b.grow⟩
theorem Lay.push {W:World} {G:Emb} {h:za} (hr:zeV W.heap.size G h W) (hn:znv G h) (x:zfS) (l:Loc) (hl:l.c<W.heap.size) (hb:zoo W.heap.size G (Ob x) l W) (ho:∀ c,x=.arr c Od\/x=.dead->True) (hx:(∃ c,x=.arr c Od)\/x=.dead) :
 Lay W G h (G.add h.next l) (h.push x):=by
 have hfr:=hr.none_next;have hnx:¬ Owns (h.push x) h.next:=by
  unfold Owns;rw [za.get_push,if_pos rfl];rcases hx with ⟨c,rfl⟩ | rfl<;>exact λq=>q
 have hno:znv (G.add h.next l) (h.push x):=by
  intro b l' hb';by_cases e:b=h.next
  . subst e; exact hnx
  . rw [Emb.add_ne _ _ _ e] at hb';rw [zj6 e];exact hn b l' hb'
 refine ⟨Ext.add hfr,⟨⟨?_, ?_, ?_,hr.base⟩, ?_⟩,hno,zrh.push _ _⟩
 . intro b l' hb';by_cases e:b=h.next
   . subst e; rw [Emb.add_same] at hb'; cases hb'; exact hl
   . rw [Emb.add_ne _ _ _ e] at hb'; exact hr.clt b l' hb'
 . intro b l' hb';rw [za.get_push];by_cases e:b=h.next
   . subst e; rw [Emb.add_same] at hb'; cases hb'; rw [if_pos rfl]; exact hb.mono (Ext.add hfr) rfl
   . rw [Emb.add_ne _ _ _ e] at hb'; rw [if_neg e]; exact (hr.blk b l' hb').mono (Ext.add hfr) rfl
 . intro b b' l' l'' hb' _ _ ho' _;exact absurd ho' (hno b l' hb')
 . intro b l' hb';rw [za.next_push];by_cases e:b=h.next
   . omega
   . rw [Emb.add_ne _ _ _ e] at hb';have:=hr.lt b l' hb';omega
def Opens (P:Program) {A:Type} (t:TypeId) (R:Rep A):Prop:=
 P.cellsOf t=R.sz/\R.agg=(match P.underlying t with | some (.struct _)=>Od | _=>Oc)/\∀ (H:Type) (enc:TypeId×Value->H) (W:World) (fuel:Nat) (cs:List Value) (x:DataW H×List MemPlace),0<W.heap.size ->
  DataW.trod enc P W 0 (λ_=>Od) Od fuel t cs=Ob x->∀ (G:Emb) (h:za),zeV W.heap.size G h W->znv G h ->
   ∃ G' h' cells d,Lay W G h G' h'/\zcL G' cells cs/\R.rel h'.st cells d
section
variable {P:Program}
theorem znw {t:TypeId} {k:IntKind} (ht:P.underlying t=Ob (.int k)) (hc:P.cellsOf t=1):Opens P t (zh k):=by
 refine ⟨hc,by rw [ht]; rfl,λH enc W fuel cs x _ hx G h hr hn=>?_⟩;obtain ⟨n,rfl,_,hw⟩:=DataW.trod_int ht hx;simp only [Lit.wf,Bool.and_eq_true,decide_eq_true_eq] at hw;exact ⟨G,h,[.int k n],n,⟨.refl _,hr,hn,.refl _⟩,.cons (.int k n) (.nil _),rfl,hw.1,hw.2⟩
theorem zqD {t:TypeId} (ht:P.underlying t=Ob .bool) (hc:P.cellsOf t=1):Opens P t zw:=by
 refine ⟨hc,by rw [ht]; rfl,λH enc W fuel cs x _ hx G h hr hn=>?_⟩;obtain ⟨b,rfl,_⟩:=DataW.trod_bool ht hx;exact ⟨G,h,[.bool b],b,⟨.refl _,hr,hn,.refl _⟩,.cons (.bool b) (.nil _),rfl⟩
theorem zjk (a:Addr) (m n:Nat):(a.add m).add n=a.add (m+n):=by
 unfold Addr.add;by_cases h1:n=0
 . subst h1; simp
 . by_cases h2:m=0
   . subst h2; simp
   . rw [if_neg h1,if_neg h2,if_neg J];simp [Nat.add_assoc]
theorem zlH {A:Type} {e:TypeId} {R:Rep A} (ho:Opens P e R) {H:Type} {enc:TypeId×Value->H} {W:World} (hpos:0<W.heap.size) {fuel:Nat} :
    ∀ (css:List (List Value)),(∀ cs∈css,∃ x,DataW.trod enc P W 0 (λ_=>Od) Od fuel e cs=Ob x)->∀ (G:Emb) (h:za),zeV W.heap.size G h W->znv G h ->
      ∃ (G':Emb) (h':za) (cellss:List (List zd)) (xs:List A),Lay W G h G' h'/\cellss.length=css.length/\xs.length=css.length/\zcL G' cellss.flatten css.flatten /\
        ∀ (i:Nat) (c:List zd) (x:A),cellss[i]?=Ob c->xs[i]?=Ob x->R.rel h'.st c x
  | [],_,G,h,hr,hn=>⟨G,h,[],[],⟨.refl _,hr,hn,.refl _⟩,rfl,rfl,.nil _,by simp⟩
  | cs::css,hall,G,h,hr,hn=>by
    obtain ⟨x,hx⟩:=hall cs (List.mem_cons_self ..);obtain ⟨G1,h1,c1,d1,l1,r1,q1⟩:=ho.2.2 H enc W fuel cs x hpos hx G h hr hn;obtain ⟨G2,h2,cells2,xs,l2,e1,e2,r2,q2⟩:=zlH ho hpos css (λc hc=>hall c (List.mem_cons_of_mem _ hc)) G1 h1 l1.heap l1.none;refine ⟨G2,h2,c1::cells2,d1::xs,l1.trans l2,by simp [e1],by simp [e2], ?_, ?_⟩
    · simp only [List.flatten_cons];exact (r1.mono l2.ext).append r2
    · intro i c y hc hy;cases i with
      | zero=>
        simp at hc hy;subst hc hy;exact R.mono _ _ _ _ l2.grow.st q1
      | succ i=>exact q2 i c y (by simpa using hc) (by simpa using hy)
theorem zgA {α:Type} {n:Nat}:∀ (ls:List (List α)),(∀ l∈ls,l.length=n)->ls.flatten.length=ls.length*n/\∀ i l,ls[i]?=Ob l->(ls.flatten.drop (i*n)).take n=l
 | [],_=>⟨by simp,by simp⟩
 | l::ls,h=>by
  obtain ⟨h1,h2⟩:=zgA ls (λx hx=>h x (List.mem_cons_of_mem _ hx));have hl:=h l (List.mem_cons_self ..);refine ⟨by simp [h1,hl,Nat.add_mul]; omega,λi x hx=>?_⟩;cases i with
  | zero=>
   simp at hx;subst hx;simp [← hl]
  | succ i=>
   have:=h2 i x (by simpa using hx);have e:(l::ls).flatten.drop ((i+1)*n)=ls.flatten.drop (i*n):=by
    rw [List.flatten_cons,show (i+1)*n=l.length+i*n from by rw [hl,Nat.add_mul]; omega,List.drop_append,List.drop_eq_nil_of_le J];simp
   rw [e]; exact this
theorem zoD {α:Type} {n:Nat} (hn:0<n) (ls:List (List α)) (h:∀ l∈ls,l.length=n) (k:Nat) (x:α) (hk:ls.flatten[k]?=Ob x):∃ l,ls[k/n]?=Ob l/\l[k%n]?=Ob x:=by
 obtain ⟨h1,h2⟩:=zgA ls h;have hlt:k<ls.length*n:=by rw [← h1]; exact (List.getElem?_eq_some_iff.1 hk).1
 have hd:k/n<ls.length:=by rw [Nat.div_lt_iff_lt_mul hn]; exact hlt
 refine ⟨ls[k/n],List.getElem?_eq_getElem hd, ?_⟩;rw [← h2 (k/n) _ (List.getElem?_eq_getElem hd),List.getElem?_take,if_pos (Nat.mod_lt _ hn),List.getElem?_drop];rw [show k/n*n+k%n=k from by rw [Nat.mul_comm]; exact Nat.div_add_mod k n];exact hk
theorem zd4 {A:Type} {t e:TypeId} {R:Rep A} (ht:P.underlying t=Ob (.slice e)) (hc:P.cellsOf t=1) (ho:Opens P e R) (hsz:0<R.sz):Opens P t (zb R):=by
 refine ⟨hc,by rw [ht]; rfl,λH enc W fuel cs x hpos hx G h hr hn=>?_⟩;rcases DataW.trod_slice ht hx with ⟨rfl,_⟩ | ⟨a,len,cap,elems,rest,n,rfl,rfl,_,_,hlc,hcm,hel,helems,hrest,_⟩
 ·exact ⟨G,h,[.nsz],[],⟨.refl _,hr,hn,.refl _⟩,.cons .nsz (.nil _),_,rfl,by simp [maxLen],.inl ⟨rfl,rfl⟩⟩
 ·obtain ⟨hrl,hrest⟩:=hrest rfl;have hce:=ho.1
  -- every element up to the capacity can be read
  have read:∀ i,i<cap->∃ ci x,W.cells? 0 (a.add (i*R.sz)) R.sz=Ob ci/\DataW.trod enc P W 0 (λ_=>Od) Od n e ci=Ob x:=by
   intro i hi;by_cases hil:i<len
   ·have h1:=helems i hil;rw [List.getElem?_eq_getElem J,Option.bind_eq_some_iff] at h1;obtain ⟨ci,h1,h2⟩:=h1;rw [hce] at h1;exact ⟨ci,_,h1,h2⟩
   ·have h1:=hrest (i-len) J;rw [List.getElem?_eq_getElem J,Option.bind_eq_some_iff] at h1;obtain ⟨ci,h1,h2⟩:=h1;rw [hce,show len+(i-len)=i from by omega] at h1;exact ⟨ci,_,h1,h2⟩
  by_cases hc0:cap=0
  ·have hl0:len=0:=J
   subst hc0 hl0;have hlay:=Lay.push hr hn .dead ⟨0,0,0⟩ hpos trivial (λ_ _=>trivial) (.inr rfl);refine ⟨_,_,[.slice h.next 0 0 R.sz Oe],[],hlay,.cons (.slice h.next 0 0 R.sz Oe ⟨0,0,0⟩ a 0 (Emb.add_same _ _ _) (Nat.le_refl _) (λk hk=>by cases hk) (.inl rfl)) (.nil _),_,rfl,by simp [maxLen],.inr (.inl ⟨h.next,0,Oe,rfl,rfl, ?_⟩)⟩;exact za.st_of (by rw [za.next_push]; omega) (by rw [za.get_push,if_pos rfl])
  ·-- the block
   have hcell:∀ k,k<cap*R.sz->∃ v,W.cell? (a.add k)=Ob v:=by
    intro k hk;have hd:k/R.sz<cap:=by rw [Nat.div_lt_iff_lt_mul hsz]; exact hk
    obtain ⟨ci,_,h1,_⟩:=read (k/R.sz) hd;obtain ⟨_,h2,h3⟩:=World.cells?_some h1;have hm:=Nat.mod_lt k hsz;have h4:=h3 (k%R.sz) hm;rw [zjk,show k/R.sz*R.sz+k%R.sz=k from by rw [Nat.mul_comm]; exact Nat.div_add_mod k _,List.getElem?_eq_getElem J] at h4;exact ⟨_,h4⟩
   have hcs:0<cap*R.sz:=Nat.mul_pos J hsz;obtain ⟨v0,hv0⟩:=hcell 0 hcs;have ha0:a.add 0=a:=by simp [Addr.add]
   rw [ha0] at hv0;unfold World.cell? at hv0;split at hv0
   case h_2=>cases hv0
   rename_i cc el fz hblk;have hspot:a.spot=Oe:=by
    cases hs:a.spot with
    | none=>rfl
    | some q=>rw [hs] at hv0; simp at hv0
   have hadd:∀ k,W.cell? (a.add k)=cc[a.off+k]?:=by
    intro k;unfold World.cell? Addr.add;by_cases hk:k=0
    ·subst hk; simp [hblk,hspot]
    ·simp [hk,hblk]
   have hfit:a.off+cap*R.sz<=cc.size:=by
    obtain ⟨v,hv⟩:=hcell (cap*R.sz-1) J;rw [hadd] at hv;have:=(Array.getElem?_eq_some_iff.1 hv).1;omega
   have hblt:a.block<W.heap.size:=(Array.getElem?_eq_some_iff.1 hblk).1
   -- the elements
   have hpieces:∀ i,i<len->∃ x,DataW.trod enc P W 0 (λ_=>Od) Od n e ((cc.toList.drop (a.off+i*R.sz)).take R.sz)=Ob x:=by
    intro i hi;obtain ⟨ci,x,h1,h2⟩:=read i J;obtain ⟨_,h3,h4⟩:=World.cells?_some h1;have:ci=(cc.toList.drop (a.off+i*R.sz)).take R.sz:=by
     apply List.ext_getElem?;intro j;by_cases hj:j<R.sz
     ·rw [← h4 j hj,zjk,hadd,List.getElem?_take,if_pos hj,List.getElem?_drop,Nat.add_assoc];simp
     ·rw [List.getElem?_eq_none J,List.getElem?_eq_none Oj]
    exact ⟨x,by rw [← this]; exact h2⟩
   obtain ⟨G1,h1,cellss,xs,l1,e1,e2,r1,q1⟩:=zlH ho hpos (enc:=enc) (fuel:=n) ((List.range len).map λi=>(cc.toList.drop (a.off+i*R.sz)).take R.sz) (by
    intro c hc;obtain ⟨i,hi,rfl⟩:=List.mem_map.1 hc;exact hpieces i (List.mem_range.1 hi)) G h hr hn
   simp only [List.length_map,List.length_range] at e1 e2;have hclen:∀ c∈cellss,c.length=R.sz:=by
    intro c hc;obtain ⟨i,hi,rfl⟩:=List.getElem_of_mem hc;exact R.len _ _ _ (q1 i _ xs[i] (List.getElem?_eq_getElem hi) (List.getElem?_eq_getElem J))
   obtain ⟨fl,fp⟩:=zgA cellss hclen;have hplen:∀ c∈(List.range len).map (λi=>(cc.toList.drop (a.off+i*R.sz)).take R.sz),c.length=R.sz:=by
    intro c hc;obtain ⟨i,hi,rfl⟩:=List.mem_map.1 hc;have hi:=List.mem_range.1 hi;have:(i+1)*R.sz<=cap*R.sz:=Nat.mul_le_mul_right _ J;rw [Nat.add_mul] at this;simp;omega
   have hbr:zoo W.heap.size G1 (Ob (.arr cellss.flatten Od)) ⟨a.block,a.off,cc.size⟩ W:=by
    refine ⟨cc,el,fz,hblk,rfl, ?_,λi v hv=>?_,λq=>by cases q⟩
    ·have:len*R.sz<=cap*R.sz:=Nat.mul_le_mul_right _ hlc;simp only [fl,e1];omega
    ·obtain ⟨v',hv',hrel⟩:=r1.at hv;obtain ⟨l,hl1,hl2⟩:=zoD hsz _ hplen i v' hv';rw [List.getElem?_map] at hl1;cases hr':(List.range len)[i/R.sz]? with
     | none=>rw [hr'] at hl1; cases hl1
     | some q=>
      rw [hr'] at hl1;cases hl1;have hq:q=i/R.sz:=by
       obtain ⟨h1,h2⟩:=List.getElem?_eq_some_iff.1 hr';simpa using h2.symm
      subst hq;rw [List.getElem?_take,if_pos (Nat.mod_lt _ hsz),List.getElem?_drop] at hl2;rw [Nat.add_assoc,show i/R.sz*R.sz+i%R.sz=i from by rw [Nat.mul_comm]; exact Nat.div_add_mod i _] at hl2;exact ⟨v',by simpa using hl2,hrel⟩
   have hlay:=Lay.push l1.heap l1.none (.arr cellss.flatten Od) ⟨a.block,a.off,cc.size⟩ hblt hbr (λ_ _=>trivial) (.inl ⟨_,rfl⟩);refine ⟨_,_,[.slice h1.next 0 len R.sz Oe],xs,l1.trans hlay,.cons (.slice h1.next 0 len R.sz Oe ⟨a.block,a.off,cc.size⟩ a cap (Emb.add_same _ _ _) hlc (λk hk=>by cases hk) (.inr ⟨?_,by simpa using hfit⟩)) (.nil _),_,rfl,by omega,.inr (.inr ⟨h1.next,0,Oe,cellss.flatten,Od,by rw [e2], ?_, ?_,λc q=>(nomatch q), ?_⟩)⟩
   ·obtain ⟨ab,ao,as⟩:=a; simp at hspot; subst hspot; rfl
   ·exact za.st_of (by rw [za.next_push]; omega) (by rw [za.get_push,if_pos rfl])
   ·rw [fl,e1,e2]; omega
   ·intro i x hx;have hi:i<xs.length:=(List.getElem?_eq_some_iff.1 hx).1;rw [Nat.zero_add,fp i _ (List.getElem?_eq_getElem J)];exact R.mono _ _ _ _ hlay.grow.st (q1 i _ x (List.getElem?_eq_getElem J) hx)
def zlI (P:Program) {A:Type} (fs:List Field) (o:Nat) (R:Rep A):Prop:=
 ∀ (H:Type) (enc:TypeId×Value->H) (W:World) (fuel:Nat) (cs:List Value),0<W.heap.size->cs.length=o+R.sz ->
  (∀ f∈fs,∃ x,DataW.trod enc P W 0 (λ_=>Od) Od fuel f.type ((cs.drop f.offset).take (P.cellsOf f.type))=Ob x)->∀ (G:Emb) (h:za),zeV W.heap.size G h W->znv G h ->
   ∃ G' h' cells d,Lay W G h G' h'/\zcL G' cells (cs.drop o)/\R.rel h'.st cells d
theorem zde (o:Nat):zlI P [] o zcE:=by
 intro H enc W fuel cs _ hl _ G h hr hn;refine ⟨G,h,[],(),⟨.refl _,hr,hn,.refl _⟩, ?_,rfl⟩;rw [List.drop_eq_nil_of_le (by rw [hl]; simp [zcE])];exact .nil _
theorem zoE {A B:Type} {f:Field} {fs:List Field} {o:Nat} {R:Rep A} {S:Rep B} (hf:f.offset=o) (ho:Opens P f.type R) (hs:zlI P fs (o+R.sz) S):zlI P (f::fs) o (zC R S):=by
 intro H enc W fuel cs hpos hl hall G h hr hn;obtain ⟨x,hx⟩:=hall f (List.mem_cons_self ..);rw [hf,ho.1] at hx;obtain ⟨G1,h1,c1,d1,l1,r1,q1⟩:=ho.2.2 H enc W fuel _ x hpos hx G h hr hn;obtain ⟨G2,h2,c2,d2,l2,r2,q2⟩:=hs H enc W fuel cs hpos (by rw [hl]; simp [zC]; omega) (λg hg=>hall g (List.mem_cons_of_mem _ hg)) G1 h1 l1.heap l1.none;refine ⟨G2,h2,c1++c2,(d1,d2),l1.trans l2, ?_,c1,c2,rfl,R.mono _ _ _ _ l2.grow.st q1,q2⟩;have e:cs.drop o=(cs.drop o).take R.sz++cs.drop (o+R.sz):=by
  rw [show cs.drop (o+R.sz)=(cs.drop o).drop R.sz from by rw [List.drop_drop]];exact (List.take_append_drop _ _).symm
 rw [e];exact (r1.mono l2.ext).append r2
theorem zb2 {A:Type} {t:TypeId} {fs:Array Field} {R:Rep A} (ht:P.underlying t=Ob (.struct fs)) (hc:P.cellsOf t=R.sz) (hag:R.agg=Od) (ho:zlI P fs.toList 0 R):Opens P t R:=by
 refine ⟨hc,by rw [ht]; exact hag,λH enc W fuel cs x hpos hx G h hr hn=>?_⟩;obtain ⟨xs,n,rfl,_,h1,h2,h3⟩:=DataW.trod_struct ht hx;obtain ⟨G',h',cells,d,l,r,q⟩:=ho H enc W n cs hpos (by rw [h1,hc]; omega) (λf hf=>by
  obtain ⟨i,hi,rfl⟩:=List.getElem_of_mem hf;have hi':i<fs.size:=by simpa using hi
  have:=h3 i fs.toList[i] (by simp [hi']);rw [List.getElem?_eq_getElem J] at this;exact ⟨_,this⟩) G h hr hn
 exact ⟨G',h',cells,d,l,by simpa using r,q⟩
def zd.isAgg:zd->Bool
 | .agg _=>Od
 | _=>Oc
structure TV {A:Type} (R:Rep A) (z:Store) (v:zd) (x:A):Prop where
 rel:R.rel z v.cells x
 agg:v.isAgg=R.agg
theorem TV.mono {A:Type} {R:Rep A} {z z':Store} {v:zd} {x:A} (e:z.le z') (t:TV R z v x):TV R z' v x:=⟨R.mono _ _ _ _ e t.rel,t.agg⟩
theorem zrS {A:Type} {t:TypeId} {R:Rep A} (ho:Opens P t R) {H:Type} {enc:TypeId×Value->H} {W:World} {base:Nat} {v:Value} {d:DataW H} {ps:List MemPlace} (hpos:0<W.heap.size)
    (hok:Value.okWide P W .any base t v) (hflat:(match P.underlying t with | some (.int _) | some .bool | some (.slice _) | some (.struct _)=>Od | _=>Oc)=Od)
    (hd:DataW.Trod enc P W 0 (λ_=>Od) Od t v d ps) {G:Emb} {h:za} (hr:zeV W.heap.size G h W) (hn:znv G h) :
    ∃ G' h' a x,Lay W G h G' h'/\zal G' a v/\TV R h'.st a x:=by
  obtain ⟨fuel,hd⟩:=hd;obtain ⟨G',h',cells,x,l,r,q⟩:=ho.2.2 H enc W fuel _ _ hpos hd G h hr hn;have scal:R.agg=Oc->v.cells=#[v]->(∀ cs,v≠.agg cs)->∃ G' h' a x,Lay W G h G' h'/\zal G' a v/\TV R h'.st a x:=by
    intro hag e hna;rw [e] at r;cases cells with
    | nil=>have:=r.1; simp at this
    | cons c rest=>
      cases rest with
      | cons _ _=>have:=r.1; simp at this
      | nil=>
        have hv:zal G' c v:=r.head;refine ⟨G',h',c,x,l,hv, ?_⟩;have:c.cells=[c]/\c.isAgg=Oc:=by
          cases c with
          | agg cs=>cases hv; exact absurd rfl (hna _)
          | _=>exact ⟨rfl,rfl⟩
        exact ⟨by rw [this.1]; exact q,by rw [this.2,hag]⟩
  split at hflat
  · rename_i k ht;obtain ⟨n,rfl⟩:=WideShapes.okWide_int ht hok;exact scal (by rw [ho.2.1,ht]) rfl (λ_ q=>by cases q)
  · rename_i ht;obtain ⟨n,rfl⟩:=WideShapes.okWide_bool ht hok;exact scal (by rw [ho.2.1,ht]) rfl (λ_ q=>by cases q)
  · rename_i ht;obtain ⟨a,len,cap,rfl⟩:=WideShapes.okWide_slice ht hok;exact scal (by rw [ho.2.1,ht]) rfl (λ_ q=>by cases q)
  · rename_i fs ht;simp only [Value.okWide,ht] at hok;obtain ⟨cs,rfl,_⟩:=hok;refine ⟨G',h',.agg cells,x,l, ?_,q,by rw [ho.2.1,ht]; rfl⟩;exact .agg' (cs':=cs.toList) (by simpa [Value.cells] using r)
  · cases hflat
end
theorem zjy.mono {T:Tab} {f:zd} {vs:List zd} {h:za} {Q Q':zj2->za->Prop} (c:zjy T f vs h Q) (hq:∀ r h',Q r h'->Q' r h'):zjy T f vs h Q':=
 let ⟨n,r,h',a,b⟩:=c; ⟨n,r,h',a,hq _ _ b⟩
theorem zlc.mono {T:Tab} {f:FuncId} {vs:List zd} {h:za} {Q Q':zj2->za->Prop} (c:zlc T f vs h Q) (hq:∀ r h',Q r h'->Q' r h'):zlc T f vs h Q':=
 let ⟨n,r,h',a,b⟩:=c; ⟨n,r,h',a,hq _ _ b⟩
def zg1:Op->Bool
 | .store _ _ _ | .mapUpdate _ _ _ _ | .insert _ _ _ _=>Oc
 | .call c=>(match c.callee with | .builtin .append | .builtin .copy=>Oc | _=>Od)
 | _=>Od
theorem zoF {a b:Foot} (ha:a.wr=[]) (ha':a.wall=Oc) (hb:b.wr=[]) (hb':b.wall=Oc):a.apart b=Od:=by
 have e:∀ l,disj l []=Od:=by intro l; simp [disj]
 have e2:∀ l,disj [] l=Od:=by intro l; rfl
 unfold Foot.apart;rw [ha,ha',hb,hb'];simp [e,e2]
theorem zjl {ev:Operand->zd} {o:Oper} (h:zg1 o.op=Od):(foot ev o).wr=[]/\(foot ev o).wall=Oc:=by
 unfold foot;cases ho:o.op<;>rw [ho] at h<;>simp only [zg1] at h<;>(try (cases h; done))<;>(try exact ⟨rfl,rfl⟩);rename_i c;cases hc:c.callee with
 | value f=>simp only [hc]; simp
 | invoke r m=>simp only [hc]; simp
 | builtin b=>rw [hc] at h; cases b<;>simp at h<;>simp [hc]
theorem zms {ops:List Oper} {i:Nat} {f:Foot} {done:List (Nat×Foot)} (hd:∀ p∈done,p.2.wr=[]/\p.2.wall=Oc) (hf:f.wr=[]) (hf':f.wall=Oc):zcC ops i f done=Od:=by
 unfold zcC;rw [if_pos (List.all_eq_true.2 λp hp=>zoF (hd p hp).1 (hd p hp).2 hf hf')]
theorem zmt {T:Tab} {g:FuncId} {F:Func} {c:Code} {vs:List zd} {h:za} {Q:zj2->za->Prop} (hF:T.funcs.get g=Ob F) (hb:F.body=Ob c) (hn:Nat.blt F.ntmps vs.length=Oc)
 (r:Run T c (zcK 0 vs .leaf) h λe fr h'=>(e=.normal\/e=.ret)/\∃ us,aresults T F.results.toList fr h'=Ob us/\Q (.ret (packed us)) h'):zlc T g vs h Q:=by
 obtain ⟨n,e,fr,h',h1,h2,us,h3,h4⟩:=r;refine ⟨n,_,h', ?_,h4⟩;unfold zeE;rcases h2 with rfl | rfl<;>simp only [hF,hn,cond_false,hb,h1,h3]
theorem zdf {T:Tab} {g:FuncId} {a b vs:List zd} {h:za} {Q:zj2->za->Prop} (hc:T.consts.get g=Oe) (c:zlc T g (a++vs++b) h Q):zjy T (.func (.func g) a b) vs h Q:=by
 obtain ⟨n,r,h',h1,h2⟩:=c;refine ⟨n,r,h', ?_,h2⟩;simp only [acall,hc];exact h1
theorem zkl {T:Tab} {g:FuncId} {p:List zd->Option zd} {v:zd} {a b vs:List zd} {h:za} {Q:zj2->za->Prop} (hc:T.consts.get g=Ob p) (hv:p (a++vs++b)=Ob v) (q:Q (.ret v) h):zjy T (.func (.func g) a b) vs h Q:=
 ⟨0,_,h,by simp only [acall,hc,hv]; rfl,q⟩
theorem zvY (fr:zi) (t:Nat):fr.op (.tmp t)=fr.ev t:=rfl
theorem zaU (fr:zi) (d:Nat) (v:zd):putDst fr (Ob d) v=Tr.set fr d v:=rfl
theorem zuo (fr:zi) (v:zd):putDst fr Oe v=fr:=rfl
theorem zup {h:za} (hwm:h.wm<=h.next):lay (lay h h.next) (min h.wm (lay h h.next).wm)=h:=by
 show ({ h with wm:=min h.wm h.next }:za)=h;rw [Nat.min_eq_left hwm]
end Go.Ai
namespace Go.Ai.Sx
def _root_.Go.Ai.Store.Sub (z:Store) (h:za):Prop:=∀ b x,z b=Ob x->h.get b=Ob x/\b<h.next
def zqE {A:Type} (R:Rep A) (z:Store) (a:zd) (x:A):Prop:=
 ∃ b off cells ro,a=.ptr b off/\z b=Ob (.arr cells ro)/\off+R.sz<=cells.length/\R.rel z ((cells.drop off).take R.sz) x
def zL {A:Type} (R:Rep A):Rep A:=
 ⟨1,Oc,λz cs x=>∃ a,cs=[a]/\zqE R z a x,λ_ _ _ h=>by obtain ⟨v,h,_⟩:=h; rw [h]; rfl,
  λ_ _ _ _ e h=>let ⟨a,h1,b,off,cells,ro,h2,h3,h4,h5⟩:=h; ⟨a,h1,b,off,cells,ro,h2,e _ _ h3,h4,R.mono _ _ _ _ e h5⟩,
  λ_=>rfl,λ_ _ _ h=>by obtain ⟨v,h,_,_,_,_,r,_⟩:=h; rw [h,r]; rfl⟩
inductive TE:Type 1 where
 | val {A:Type} (R:Rep A) (x:A)
 | raw (v:zd)
 | elt (v:zd) (i off:Nat)
 | tup (es:List TE)
mutual
def TE.ok (z:Store):TE->zd->Prop
 | .val R x,a=>TV R z a x
 | .raw v,a=>a=v
 | .elt v i off,a=>∃ b o len es cap,v=.slice b o len es cap/\a=.ptr b (o+i*es+off)
 | .tup es,a=>∃ vs,a=.tuple vs/\zB z es vs
def zB (z:Store):List TE->List zd->Prop
 | [],vs=>vs=[]
 | e::es,vs=>∃ v vs',vs=v::vs'/\e.ok z v/\zB z es vs'
end
mutual
theorem TE.ok_mono {z z':Store} (hz:z.le z'):∀ {e:TE} {a:zd},e.ok z a->e.ok z' a
 | .val _ _,_,h=>TV.mono hz h
 | .raw _,_,h=>h
 | .elt ..,_,h=>h
 | .tup es,_,h=>by
  simp only [TE.ok] at h ⊢;obtain ⟨vs,h1,h2⟩:=h;exact ⟨vs,h1,zdB hz h2⟩
theorem zdB {z z':Store} (hz:z.le z'):∀ {es:List TE} {vs:List zd},zB z es vs->zB z' es vs
 | [],_,h=>by simp only [zB] at h ⊢; exact h
 | e::es,_,h=>by
  simp only [zB] at h ⊢;obtain ⟨v,vs',h1,h2,h3⟩:=h;exact ⟨v,vs',h1,TE.ok_mono hz h2,zdB hz h3⟩
end
abbrev Env:=List (Nat×TE)
def look:Env->Nat->Option TE
 | [],_=>Oe
 | (a,e)::M,t=>bif Nat.beq a t then Ob e else look M t
def ziJ (z:Store) (M:Env) (fr:zi):Prop:=∀ t e,look M t=Ob e->e.ok z (fr.ev t)
theorem ziJ.mono {z z':Store} {M:Env} {fr:zi} (hz:z.le z') (h:ziJ z M fr):ziJ z' M fr:=λt e q=>TE.ok_mono hz (h t e q)
theorem ziJ.set {z:Store} {M:Env} {fr:zi} {d:Nat} {e:TE} {v:zd} (h:ziJ z M fr) (q:e.ok z v):ziJ z ((d,e)::M) (Tr.set fr d v):=by
 intro t e' hl;rw [zi.ev_set];simp only [look] at hl;by_cases hd:d=t
 . subst hd; simp at hl; subst hl; rw [if_pos rfl]; exact q
 . have:Nat.beq d t=Oc:=by rw [Bool.eq_false_iff]; intro q; exact hd (Nat.eq_of_beq_eq_true q)
   rw [this] at hl;rw [if_neg (Ne.symm hd)];exact h t e' hl
def Sublist (M M':Env):Prop:=∀ t e,look M t=Ob e->look M' t=Ob e
def zmu (M':Env):Env->Prop
 | []=>True
 | p::M=>look M' p.1=Ob p.2/\zmu M' M
theorem zmu.sub {M':Env}:∀ {M:Env},zmu M' M->Sublist M M'
 | [],_,_,_,h=>by cases h
 | p::M,ha,t,e,h=>by
  simp only [look] at h;cases hb:Nat.beq p.1 t with
  | true=>
   rw [hb] at h;have:=Nat.eq_of_beq_eq_true hb;subst this;cases h;exact ha.1
  | false=>rw [hb] at h; exact ha.2.sub t e h
inductive Obj:Type 1 where
 | row {A:Type} (R:Rep A) (xs:List A)
 | box (es:List TE)
 | mp {A B:Type} (Q:Rep A) (R:Rep B) (es:List (A×B))
 | cb (bs:List Nat) (ok:Store->za->Prop)
def Stab (bs:List Nat) (ok:Store->za->Prop):Prop:=∀ z z' h h',z.le z'->(∀ b∈bs,h'.get b=h.get b)->ok z h->ok z' h'
def Obj.ok (z:Store) (h:za):Obj->zd->Prop
 | .row R xs,v=>xs.length<=maxLen/\((v=.nsz/\xs=[])\/∃ b off cap cells,v=.slice b off xs.length R.sz cap/\h.get b=Ob (.arr cells Oc)/\off+xs.length*R.sz<=cells.length /\
  (∀ c,cap=Ob c->xs.length<=c/\off+c*R.sz<=cells.length)/\∀ i x,xs[i]?=Ob x->R.rel z ((cells.drop (off+i*R.sz)).take R.sz) x)
 | .box es,v=>∃ b cells,v=.ptr b 0/\h.get b=Ob (.arr cells Oc)/\zB z es cells/\cells.all zd.one=Od
 | .mp Q R es,v=>∃ b l,v=.map b/\h.get b=Ob (.mp l)/\l.length=es.length/\∀ (i:Nat) (p:zd×zd) (q:_×_),l[i]?=Ob p->es[i]?=Ob q->TV Q z p.1 q.1/\TV R z p.2 q.2
 | .cb bs ok,_=>ok z h/\Stab bs ok
def zhm:zd->Option Nat
 | .slice b _ _ _ _=>Ob b
 | .ptr b _=>Ob b
 | .map b=>Ob b
 | _=>Oe
def zeP (p:zd×Obj):List Nat:=match p.2 with
 | .cb bs _=>bs
 | _=>(zhm p.1).toList
def zrT:Obj->Bool
 | .cb _ _=>Oc
 | _=>Od
theorem zlJ {v:zd} {o:Obj} (h:zrT o=Od):zeP (v,o)=(zhm v).toList:=by cases o<;>first | rfl | cases h
theorem Obj.ok_mono {z z':Store} {h h':za} {o:Obj} {v:zd} (hz:z.le z') (hs:∀ b,b∈zeP (v,o)->h'.get b=h.get b) (q:o.ok z h v):o.ok z' h' v:=by
 cases o with
 | row R xs=>
  obtain ⟨q0,q⟩:=q;refine ⟨q0, ?_⟩;rcases q with q | ⟨b,off,cap,cells,rfl,q2,q3,q4,q5⟩
  . exact .inl q
  . exact .inr ⟨b,off,cap,cells,rfl,by rw [hs b (by simp [zeP,zhm])]; exact q2,q3,q4,λi x hx=>R.mono _ _ _ _ hz (q5 i x hx)⟩
 | box es=>
  obtain ⟨b,cells,rfl,q2,q3,q4⟩:=q;exact ⟨b,cells,rfl,by rw [hs b (by simp [zeP,zhm])]; exact q2,zdB hz q3,q4⟩
 | mp Q R es=>
  obtain ⟨b,l,rfl,q2,q3,q4⟩:=q;exact ⟨b,l,rfl,by rw [hs b (by simp [zeP,zhm])]; exact q2,q3,λi p q hp hq=>⟨(q4 i p q hp hq).1.mono hz,(q4 i p q hp hq).2.mono hz⟩⟩
 | cb bs ok=>exact ⟨q.2 z z' h h' hz hs q.1,q.2⟩
abbrev Own:=List (zd×Obj)
def blks (L:Own):List Nat:=L.flatMap zeP
theorem zR (p:zd×Obj) (L:Own):blks (p::L)=zeP p++blks L:=by simp [blks]
theorem zbm {L:Own} {b:Nat}:b∈blks L↔∃ p∈L,b∈zeP p:=by simp [blks,List.mem_flatMap]
structure Ctx where
 z0:Store
 h0:za
 B0:List Nat
structure zgT (C:Ctx) (z:Store) (h:za) (L:Own):Prop where
 ok:∀ p∈L,p.2.ok z h p.1
 out:∀ p∈L,∀ b,b∈zeP p->z b=Oe/\b<h.next/\(C.h0.next<=b\/b∈C.B0)
 nodup:(blks L).Nodup
structure Chg (C:Ctx) (h:za):Prop where
 next:C.h0.next<=h.next
 same:∀ b,b<C.h0.next->b∉C.B0->h.get b=C.h0.get b
 wm:∀ m,m<=C.h0.wm->m<=C.h0.next->(∀ b∈C.B0,m<=b)->m<=h.wm
 ok:h.wm<=h.next
structure StZ (C:Ctx) (M:Env) (L:Own) (z:Store) (fr:zi) (h:za):Prop where
 zle:C.z0.le z
 sub:z.Sub h
 old:∀ b,b<C.h0.next->b∉C.B0->z b=C.z0 b
 fr:ziJ z M fr
 own:zgT C z h L
 chg:Chg C h
def St (C:Ctx) (M:Env) (L:Own) (fr:zi) (h:za):Prop:=∃ z,StZ C M L z fr h
theorem StZ.low {C:Ctx} {M:Env} {L:Own} {z:Store} {fr:zi} {h:za} (s:StZ C M L z fr h) {x:Nat} (h1:x<=h.next) (h2:∀ m,m<=C.h0.wm->m<=C.h0.next->(∀ b∈C.B0,m<=b)->m<=x):StZ C M L z fr (lay h x):=
 ⟨s.zle,s.sub,s.old,s.fr,⟨λp hp=>Obj.ok_mono (h:=h) (h':=Go.Ai.lay h x) (.refl _) (λ_ _=>rfl) (s.own.ok p hp),s.own.out,s.own.nodup⟩,⟨s.chg.next,s.chg.same,h2,h1⟩⟩
theorem StZ.set {C:Ctx} {M:Env} {L:Own} {z:Store} {fr:zi} {h:za} (s:StZ C M L z fr h) {d:Nat} {e:TE} {v:zd} (q:e.ok z v):StZ C ((d,e)::M) L z (Tr.set fr d v) h:=
 { s with fr:=s.fr.set q }
def picks (L:Own):List Nat->Own
 | []=>[]
 | i::is=>match L[i]? with
  | some p=>p::picks L is
  | none=>picks L is
theorem zdQ {L:Own}:∀ {is:List Nat} {p:zd×Obj},p∈picks L is->∃ i∈is,L[i]?=Ob p
 | [],_,h=>by cases h
 | i::is,p,h=>by
  simp only [picks] at h;cases hi:L[i]? with
  | none=>rw [hi] at h; obtain ⟨j,h1,h2⟩:=zdQ h; exact ⟨j,List.mem_cons_of_mem _ h1,h2⟩
  | some q=>
   rw [hi] at h;rcases List.mem_cons.1 h with rfl | h
   ·exact ⟨i,List.mem_cons_self ..,hi⟩
   ·obtain ⟨j,h1,h2⟩:=zdQ h; exact ⟨j,List.mem_cons_of_mem _ h1,h2⟩
theorem zdC {L:Own} (hn:(blks L).Nodup):∀ {i j:Nat} {p q:zd×Obj} {b:Nat},L[i]?=Ob p->L[j]?=Ob q->b∈zeP p->b∈zeP q->i=j:=by
 induction L with
 | nil=>intro i j p q b h; simp at h
 | cons a L ih=>
  intro i j p q b hi hj hp hq;rw [zR] at hn;have hn':(blks L).Nodup:=(List.nodup_append.1 hn).2.1;have key:∀ {k:Nat} {p:zd×Obj},L[k]?=Ob p->b∈zeP p->b∈zeP a->False:=by
   intro k p hk hp ha;exact (List.nodup_append.1 hn).2.2 b ha b (zbm.2 ⟨p,List.mem_of_getElem? hk,hp⟩) rfl
  cases i with
  | zero=>
   simp at hi; subst hi;cases j with
   | zero=>rfl
   | succ j=>exact (key (by simpa using hj) hq hp).elim
  | succ i=>
   cases j with
   | zero=>simp at hj; subst hj; exact (key (by simpa using hi) hp hq).elim
   | succ j=>exact congrArg (·+1) (ih (i:=i) (j:=j) hn' (by simpa using hi) (by simpa using hj) hp hq)
theorem zyS {L:Own} (hn:(blks L).Nodup) {p:zd×Obj} (hp:p∈L):(zeP p).Nodup:=by
 induction L with
 | nil=>cases hp
 | cons a L ih=>
  rw [zR] at hn;rcases List.mem_cons.1 hp with rfl | hp
  . exact (List.nodup_append.1 hn).1
  . exact ih (List.nodup_append.1 hn).2.1 hp
theorem zcF {L:Own} (hn:(blks L).Nodup):∀ {is:List Nat},is.Nodup->(blks (picks L is)).Nodup
 | [],_=>by simp [picks,blks]
 | i::is,h=>by
  simp only [picks];have ih:=zcF hn (List.nodup_cons.1 h).2;cases hi:L[i]? with
  | none=>exact ih
  | some p=>
   show (blks (p::picks L is)).Nodup;rw [zR];refine List.nodup_append.2 ⟨zyS hn (List.mem_of_getElem? hi),ih,λb hb c hc e=>?_⟩;subst e;obtain ⟨q,hq1,hq2⟩:=zbm.1 hc;obtain ⟨j,hj1,hj2⟩:=zdQ hq1;have:=zdC hn hi hj2 hb hq2;subst this;exact (List.nodup_cons.1 h).1 hj1
theorem St.pick {C:Ctx} {M M':Env} {L L':Own} {fr:zi} {h:za} (s:St C M L fr h) (is:List Nat) (q:zmu M M') (hL:picks L is=L') (hn:is.Nodup):St C M' L' fr h:=by
 subst hL;obtain ⟨z,s⟩:=s;refine ⟨z,{ s with fr:=λt e hl=>s.fr t e (q.sub t e hl),own:=⟨λp hp=>?_,λp hp=>?_,zcF s.own.nodup hn⟩ }⟩
 . obtain ⟨i,_,h2⟩:=zdQ hp;exact s.own.ok p (List.mem_of_getElem? h2)
 . obtain ⟨i,_,h2⟩:=zdQ hp;exact s.own.out p (List.mem_of_getElem? h2)
def wX (T:Tab) (ops:List Oper):List Oper->zi->za->(zi->za->Prop)->Prop
 | [],fr,h,Q=>Q fr h
 | o::rest,fr,h,Q=>
  match awanted ops fr o.guard with
  | some Od=>(match aop T fr.op h o.op with
   | some (.val v h')=>wX T ops rest (putDst fr o.dst v) h' Q
   | some (.call f vs)=>zjy T f vs h λr h1=>∃ v,r=.ret v/\wX T ops rest (putDst fr o.dst v) h1 Q
   | none=>False)
  | some Oc=>wX T ops rest (putDst fr o.dst unit) h Q
  | none=>False
theorem zjI {T:Tab} {ops:List Oper}:∀ {rest:List Oper} {fr:zi} {h:za} {Q:zaQ->zi->za->Prop},wX T ops rest fr h (Q .normal)->Ops T ops rest fr h Q
 | [],_,_,_,w=>zwL w
 | o::rest,fr,h,Q,w=>by
  simp only [wX] at w;split at w
  . rename_i hw;split at w
    . rename_i ha; exact zwM hw ha (zjI w)
    . rename_i ha; exact zul hw ha (w.mono λr h' ⟨v,e,w⟩=>⟨v,e,zjI w⟩)
    . exact w.elim
  . rename_i hw; exact zuk hw (zjI w)
  . exact w.elim
def zmv (ops:List Oper) (i:Nat):Bool:=(ops.take (i+1)).all λo=>zg1 o.op
def zhn (b:List Nat):Nat->Bool
 | 0=>Od
 | n+1=>b.contains n&&zhn b n
def zgB:Op->Bool
 | .alloc _ | .box _ _=>Od
 | _=>Oc
def notCall:Op->Bool
 | .call _=>Oc
 | _=>Od
def zpt (ops:List Oper) (t:Nat):Nat->Option Nat
 | 0=>Oe
 | j+1=>match ops[j]? with
  | some o=>bif (match o.dst with | some t'=>Nat.beq t' t | none=>Oc) then (bif zgB o.op&&o.guard.isNone&&((ops.drop (j+1)).all λq=>match q.dst with | some t'=>!Nat.beq t' t | none=>Od) then Ob j else Oe) else zpt ops t j
  | none=>Oe
def zmw (ops:List Oper) (i:Nat):Bool:=
 match ops[i]? with
 | some o=>match o.op with
  | .store _ (.tmp t) _=>match zpt ops t i with
   | some j=>match zct ops i with
    | b=>(List.range i).all λp=>b.contains p||(Nat.blt p j&&(match ops[p]? with | some q=>notCall q.op | none=>Oc))
   | none=>Oc
  | _=>Oc
 | none=>Oc
def zdl:Op->Bool
 | .load _ _ | .store _ _ _ | .lookup _ _ _ _ | .mapUpdate _ _ _ _ | .insert _ _ _ _ | .mapEntry _ _ _ | .entryStore _ _ _ _=>Oc
 | .call c=>(match c.callee with | .builtin .len | .builtin .append | .builtin .copy=>Oc | .builtin _=>Od | _=>Oc)
 | _=>Od
def zoG:Op->Bool
 | .call c=>(match c.callee with | .builtin .len=>Od | _=>Oc)
 | _=>Oc
def znx:Op->Bool
 | .load _ _=>Od
 | _=>Oc
def ziS (o:Op):Bool:=zdl o||zoG o
def zeG (ol:List Nat) (i:Nat) (o:Op):Bool:=zdl o||((zoG o||znx o)&&!ol.contains i)
def zkm:Op->Bool
 | .store _ _ _ | .mapUpdate _ _ _ _ | .insert _ _ _ _ | .mapEntry _ _ _ | .entryStore _ _ _ _=>Od
 | .call c=>(match c.callee with | .builtin .append=>Od | _=>Oc)
 | _=>Oc
def zmx (ops:List Oper) (ol:List Nat) (i:Nat):Bool:=
 match ops[i]? with
 | some o=>zdl o.op||(zkm o.op&&(match zct ops i with
  | b=>(List.range i).all λp=>b.contains p||(match ops[p]? with | some q=>zeG ol p q.op | none=>Oc)))
 | none=>Oc
def zhR:Op->Bool
 | .call c=>(match c.callee with | .builtin .append=>Od | _=>Oc)
 | _=>Oc
def ze8 (ol:List Nat):List Nat:=ol.filterMap λx=>bif Nat.ble 1000000 x&&Nat.blt x 2000000 then Ob (x-1000000) else Oe
def zcM (ol:List Nat):List Nat:=ze8 ol++ol.filterMap λx=>bif Nat.ble 2000000 x then Ob (x-2000000) else Oe
def zfC (ops:List Oper) (r:Nat):Bool:=ops.all λo=>match o.dst with | some t=>!Nat.beq t r | none=>Od
def zjm (ops:List Oper) (a j:Nat):Bool:=(List.range ops.length).all λk=>Nat.beq k j||(match ops[k]? with | some o=>(match o.dst with | some t=>!Nat.beq t a | none=>Od) | none=>Od)
def zkn:Op->Option Nat
 | .fieldAddr _ (.tmp r) _=>Ob r
 | .nilCheck (.tmp r)=>Ob r
 | .move (.tmp r)=>Ob r
 | _=>Oe
def zhG (ops:List Oper):Nat->Nat->Option Nat
 | 0,_=>Oe
 | j+1,a=>match ops[j]? with
  | some o=>(match zkn o.op,o.dst with
   | some r,Ob t=>bif Nat.beq t a&&zjm ops a j then (bif zfC ops r then Ob r else zhG ops j r) else zhG ops j a
   | _,_=>zhG ops j a)
  | none=>Oe
def zld (ops:List Oper) (i a:Nat):Option Nat:=bif zfC ops a then Ob a else zhG ops i a
def zny (ops:List Oper) (ol:List Nat) (p:Nat) (q:Oper):Option Nat:=match q.op with
 | .load _ (.tmp a)=>(match zld ops p a with | some r=>bif (zcM ol).contains r then Ob r else Oe | none=>Oe)
 | _=>Oe
def znz (ops:List Oper) (ol:List Nat) (p:Nat) (q:Oper):Option Nat:=match q.op with
 | .store _ (.tmp a) _=>(match zld ops p a with | some r=>bif (ze8 ol).contains r then Ob r else Oe | none=>Oe)
 | _=>Oe
def othr (r:Nat):Option Nat->Bool
 | some r'=>!Nat.beq r' r
 | none=>Oc
def zpu (ops:List Oper) (ol:List Nat) (i:Nat):Bool:=
 match ops[i]? with
 | some o=>match zct ops i with
  | b=>((match zny ops ol i o with | some r=>(List.range i).all λp=>b.contains p||(match ops[p]? with | some q=>(zg1 q.op||zhR q.op)||othr r (znz ops ol p q) | none=>Oc) | none=>Oc) ||
   (zhR o.op&&(List.range i).all λp=>b.contains p||(match ops[p]? with | some q=>zeG ol p q.op||(zny ops ol p q).isSome | none=>Oc))) ||
   (match znz ops ol i o with | some r=>(List.range i).all λp=>b.contains p||(match ops[p]? with | some q=>zeG ol p q.op||(othr r (zny ops ol p q)||othr r (znz ops ol p q)) | none=>Oc) | none=>Oc)
 | none=>Oc
def znA (ops:List Oper) (ol:List Nat):Nat->Bool
 | 0=>Od
 | n+1=>(zmv ops n||zhn (zct ops n) n||zmw ops n||zmx ops ol n||zpu ops ol n)&&znA ops ol n
theorem zjn {b:List Nat}:∀ {n:Nat},zhn b n=Od->∀ j,j<n->b.contains j=Od
 | 0,_,j,hj=>by omega
 | n+1,h,j,hj=>by
  simp only [zhn,Bool.and_eq_true] at h;by_cases e:j=n
  . subst e; exact h.1
  . exact zjn h.2 j J
theorem zg2 {ops:List Oper} {ol:List Nat}:∀ {n:Nat},znA ops ol n=Od->∀ i,i<n->zmv ops i=Od\/zhn (zct ops i) i=Od\/zmw ops i=Od\/zmx ops ol i=Od\/zpu ops ol i=Od
 | 0,_,i,hi=>by omega
 | n+1,h,i,hi=>by
  simp only [znA,Bool.and_eq_true,Bool.or_eq_true] at h;by_cases e:i=n
  . subst e;rcases h.1 with (((q | q) | q) | q) | q
    . exact .inl q
    . exact .inr (.inl q)
    . exact .inr (.inr (.inl q))
    . exact .inr (.inr (.inr (.inl q)))
    . exact .inr (.inr (.inr (.inr q)))
  . exact zg2 h.2 i J
theorem zlK {ops:List Oper} {t:Nat}:∀ {i j:Nat},zpt ops t i=Ob j->j<i/\∃ o,ops[j]?=Ob o/\o.dst=Ob t/\zgB o.op=Od/\o.guard=Oe/\∀ k q,j<k->ops[k]?=Ob q->q.dst≠Ob t
 | 0,_,h=>by cases h
 | i+1,j,h=>by
  simp only [zpt] at h;split at h
  ·rename_i o ho;cases hb:(match o.dst with | some t'=>Nat.beq t' t | none=>Oc) with
   | true=>
    rw [hb] at h;simp only [cond_true] at h;have hd:o.dst=Ob t:=by
     split at hb
     ·rename_i t' e; rw [e,Nat.eq_of_beq_eq_true hb]
     ·cases hb
    cases hc:(zgB o.op&&o.guard.isNone&&((ops.drop (i+1)).all λq=>match q.dst with | some t'=>!Nat.beq t' t | none=>Od)) with
    | false=>rw [hc] at h; cases h
    | true=>
     rw [hc] at h;cases h;simp only [Bool.and_eq_true] at hc;refine ⟨Nat.lt_succ_self _,o,ho,hd,hc.1.1,by simpa using hc.1.2,λk q hk hq e=>?_⟩;have:=List.all_eq_true.1 hc.2 q (List.mem_of_getElem? (i:=k-(i+1)) (by rw [List.getElem?_drop]; rw [show i+1+(k-(i+1))=k by omega]; exact hq));rw [e] at this;simp at this
   | false=>
    rw [hb] at h;obtain ⟨h1,h2⟩:=zlK (i:=i) h;exact ⟨Nat.lt_succ_of_lt h1,h2⟩
  ·cases h
def zpv (ops:List Oper) (ol:List Nat) (i:Nat) (fr:zi) (done:List (Nat×Foot)):Prop:=
 (∀ j o r a,j<i->ops[j]?=Ob o->zkn o.op=Ob r->o.dst=Ob a->(zfC ops r=Od\/∃ k,k<j/\zjm ops r k=Od)->zjm ops a j=Od->∀ x∈zS (fr.ev a),x∈zS (fr.ev r)) /\
 (∀ r∈zcM ol,zfC ops r=Od->∀ p∈done,∀ o,ops[p.1]?=Ob o->zhR o.op=Od->∀ x∈zS (fr.ev r),x∉p.2.wr) /\
 (∀ p∈done,∀ o t a,ops[p.1]?=Ob o->o.op=.load t (.tmp a)->∀ r,zld ops p.1 a=Ob r->∀ x∈p.2.rd,x∈zS (fr.ev r)) /\
 (∀ p∈done,∀ o t a y,ops[p.1]?=Ob o->o.op=.store t (.tmp a) y->p.2.rd=[]/\∀ r,zld ops p.1 a=Ob r->∀ x∈p.2.wr,x∈zS (fr.ev r)) /\
 ∀ r∈ze8 ol,∀ r'∈zcM ol,r≠r'->zfC ops r=Od->zfC ops r'=Od->∀ x∈zS (fr.ev r),x∉zS (fr.ev r')
def zlL (ops:List Oper) (ol:List Nat) (z:Store) (i:Nat) (fr:zi) (h:za) (done:List (Nat×Foot)):Prop:=
 (∀ p∈done,p.1<i/\p.2.wall=Oc/\(∀ o,ops[p.1]?=Ob o->zg1 o.op=Od->p.2.wr=[])/\(∀ o,ops[p.1]?=Ob o->notCall o.op=Od->p.2.rall=Oc)/\(∀ b,b∈p.2.rd\/b∈p.2.wr->b<h.next) /\
  ∀ o,ops[p.1]?=Ob o->zeG ol p.1 o.op=Od->p.2.wr=[]/\p.2.rall=Oc/\(∀ b,b∈p.2.rd->z b≠Oe)/\(ziS o.op=Od->p.2.rd=[])) /\
 (∀ j o t,j<i->ops[j]?=Ob o->zgB o.op=Od->o.guard=Oe->o.dst=Ob t->(∀ k q,j<k->ops[k]?=Ob q->q.dst≠Ob t)->∃ b,fr.ev t=.ptr b 0/\∀ p∈done,p.1<j->∀ c,c∈p.2.rd\/c∈p.2.wr->c<b)/\zpv ops ol i fr done
structure zjo (z:Store) (h:za) (f:Foot):Prop where
 rd:∀ b,b∈f.rd->b<h.next
 wr:∀ b,b∈f.wr->b<h.next/\z b=Oe
theorem zeH {ops:List Oper} {r:Nat} (h:zfC ops r=Od) {i:Nat} {o:Oper} (hi:ops[i]?=Ob o):o.dst≠Ob r:=by
 intro e;have:=List.all_eq_true.1 h o (List.mem_of_getElem? hi);rw [e] at this;simp at this
theorem zlM {ops:List Oper} {a j:Nat} (h:zjm ops a j=Od) {k:Nat} {o:Oper} (hk:ops[k]?=Ob o) (hne:k≠j):o.dst≠Ob a:=by
 intro e;have:=List.all_eq_true.1 h k (List.mem_range.2 (List.getElem?_eq_some_iff.1 hk).1);rw [hk] at this;simp [hne,e] at this
theorem zho {ops:List Oper} {r:Nat}:∀ {i a:Nat},zhG ops i a=Ob r->zfC ops r=Od/\∃ j o r',j<i/\ops[j]?=Ob o/\zkn o.op=Ob r'/\o.dst=Ob a/\zjm ops a j=Od/\(zfC ops r'=Od/\r'=r\/zhG ops j r'=Ob r)
 | 0,_,h=>by cases h
 | i+1,a,h=>by
  have up:zhG ops i a=Ob r->zfC ops r=Od/\∃ j o r',j<i+1/\ops[j]?=Ob o/\zkn o.op=Ob r'/\o.dst=Ob a/\zjm ops a j=Od/\(zfC ops r'=Od/\r'=r\/zhG ops j r'=Ob r):=λq=>by
   obtain ⟨h0,j,o,r',h1,h2⟩:=zho (i:=i) q;exact ⟨h0,j,o,r',by omega,h2⟩
  simp only [zhG] at h;split at h
  ·rename_i o ho;split at h
   ·rename_i r' t e1 e2;cases hb:(Nat.beq t a&&zjm ops a i) with
    | true=>
     rw [hb,cond_true] at h;rw [Bool.and_eq_true] at hb;have hd:o.dst=Ob a:=by rw [e2,Nat.eq_of_beq_eq_true hb.1]
     cases hf:zfC ops r' with
     | true=>
      rw [hf] at h;cases h;exact ⟨hf,i,o,_,Nat.lt_succ_self _,ho,e1,hd,hb.2,.inl ⟨hf,rfl⟩⟩
     | false=>
      rw [hf] at h;exact ⟨(zho (i:=i) h).1,i,o,r',Nat.lt_succ_self _,ho,e1,hd,hb.2,.inr h⟩
    | false=>rw [hb] at h; exact up h
   ·exact up h
  ·cases h
theorem zcG {ops:List Oper} {i a r:Nat} (h:zld ops i a=Ob r):zfC ops r=Od:=by
 unfold zld at h;cases hf:zfC ops a with
 | true=>rw [hf] at h; cases h; exact hf
 | false=>
  rw [hf] at h;exact (zho h).1
theorem zqF {ops:List Oper} {ol:List Nat} {i:Nat} {fr:zi} {done:List (Nat×Foot)} (h:zpv ops ol i fr done) {r:Nat}:∀ {j a:Nat},j<=i->zhG ops j a=Ob r->(∀ x∈zS (fr.ev a),x∈zS (fr.ev r))/\∃ k,k<j/\zjm ops a k=Od:=by
 intro j;induction j using Nat.strongRecOn with
 | _ j ih=>
  intro a hj hr;obtain ⟨_,k,o,r',h1,h2,h3,h4,h5,h6⟩:=zho hr;refine ⟨?_,k,h1,h5⟩;rcases h6 with ⟨h7,rfl⟩ | h6
  . exact h.1 k o r' a J h2 h3 h4 (.inl h7) h5
  . obtain ⟨g1,k',g2,g3⟩:=ih k h1 J h6;exact λx hx=>g1 x (h.1 k o r' a J h2 h3 h4 (.inr ⟨k',g2,g3⟩) h5 x hx)
theorem zpv.at {ops:List Oper} {ol:List Nat} {i:Nat} {fr:zi} {done:List (Nat×Foot)} (h:zpv ops ol i fr done) {a r j:Nat} (hj:j<=i) (hr:zld ops j a=Ob r):∀ x∈zS (fr.ev a),x∈zS (fr.ev r):=by
 unfold zld at hr;cases hf:zfC ops a with
 | true=>rw [hf] at hr; cases hr; exact λx hx=>hx
 | false=>
  rw [hf] at hr;exact (zqF h hj hr).1
theorem ziT {ops:List Oper} {ol:List Nat} {p r:Nat} {q:Oper} (h:zny ops ol p q=Ob r):∃ t a,q.op=.load t (.tmp a)/\zld ops p a=Ob r/\r∈zcM ol:=by
 unfold zny at h;split at h
 . rename_i t a e;split at h
   . rename_i r' hr;cases hc:(zcM ol).contains r' with
     | true=>
      rw [hc] at h;cases h;exact ⟨t,a,e,hr,by simpa using hc⟩
     | false=>rw [hc] at h; cases h
   . cases h
 . cases h
theorem ziU {ops:List Oper} {ol:List Nat} {p r:Nat} {q:Oper} (h:znz ops ol p q=Ob r):∃ t a y,q.op=.store t (.tmp a) y/\zld ops p a=Ob r/\r∈ze8 ol:=by
 unfold znz at h;split at h
 . rename_i t a y e;split at h
   . rename_i r' hr;cases hc:(ze8 ol).contains r' with
     | true=>
      rw [hc] at h;cases h;exact ⟨t,a,y,e,hr,by simpa using hc⟩
     | false=>rw [hc] at h; cases h
   . cases h
 . cases h
theorem zmy {r:Nat} {o:Option Nat} (h:othr r o=Od):∃ r',o=Ob r'/\r'≠r:=by
 unfold othr at h;split at h
 . rename_i r';refine ⟨r',rfl,λe=>?_⟩;rw [e] at h;simp at h
 . cases h
theorem znB {ol:List Nat} {r:Nat} (h:r∈ze8 ol):r∈zcM ol:=List.mem_append_left _ h
theorem zfW {ops:List Oper} {i:Nat} {f:Foot} {done:List (Nat×Foot)} {o:Oper} {ol:List Nat} {z:Store} {fr:zi} {h:za} (hi:ops[i]?=Ob o) (hd:zlL ops ol z i fr h done) (hok:zmv ops i=Od\/zhn (zct ops i) i=Od\/zmw ops i=Od\/zmx ops ol i=Od\/zpu ops ol i=Od) (hf:f.wall=Oc) (hfo:zjo z h f) (hnf:zdl o.op=Od->f=⟨[],Oc,[],Oc⟩) (how:zkm o.op=Od->f.rall=Oc) (hf':zg1 o.op=Od->f.wr=[])
 (hst:∀ t et y,o.op=.store et (.tmp t) y->f=⟨[],Oc,zS (fr.ev t),Oc⟩) (hld:∀ t a,o.op=.load t (.tmp a)->f=⟨zS (fr.ev a),Oc,[],Oc⟩) (hap:zhR o.op=Od->∀ r∈zcM ol,∀ x∈zS (fr.ev r),x∉f.wr):zcC ops i f done=Od:=by
 rcases hok with hq | hc | hs | hs | hs
 . unfold zmv at hq;rw [List.all_eq_true] at hq;have at':∀ j o',j<=i->ops[j]?=Ob o'->zg1 o'.op=Od:=by
    intro j o' hj ho;refine hq o' (List.mem_of_getElem? (i:=j) ?_);rw [List.getElem?_take,if_pos J]; exact ho
   refine zms (λp hp=>?_) (hf' (at' i o (Nat.le_refl _) hi)) hf;obtain ⟨h1,h2,h3,_⟩:=hd.1 p hp;have hlt:p.1<ops.length:=Nat.lt_trans h1 (List.getElem?_eq_some_iff.1 hi).1;exact ⟨h3 _ (List.getElem?_eq_getElem hlt) (at' p.1 _ J (List.getElem?_eq_getElem hlt)),h2⟩
 . unfold zcC;by_cases h:(done.all λp=>p.2.apart f)=Od
   . rw [if_pos h]
   . rw [if_neg h];refine List.all_eq_true.2 λp hp=>?_;rw [Bool.or_eq_true];exact .inr (zjn hc _ (hd.1 p hp).1)
 . unfold zcC;by_cases h:(done.all λp=>p.2.apart f)=Od
   . rw [if_pos h]
   . rw [if_neg h];refine List.all_eq_true.2 λp hp=>?_;rw [Bool.or_eq_true];unfold zmw at hs;rw [hi] at hs;simp only at hs;split at hs
     . rename_i et t y hop;split at hs
       . rename_i j hj;obtain ⟨hji,oj,hj1,hj2,hj3,hj4,hj5⟩:=zlK hj;obtain ⟨g1,g2,g3,g4,g5,g6⟩:=hd.1 p hp;have:=List.all_eq_true.1 hs p.1 (List.mem_range.2 g1);rw [Bool.or_eq_true] at this;rcases this with q | q
         . exact .inr q
         . left;rw [Bool.and_eq_true] at q;have hpj:p.1<j:=by
            have:=q.1;simp only [Nat.blt_eq] at this;exact this
           have hlt:p.1<ops.length:=Nat.lt_trans g1 (List.getElem?_eq_some_iff.1 hi).1;have hr:=g4 _ (List.getElem?_eq_getElem hlt) (by have:=q.2; rw [List.getElem?_eq_getElem hlt] at this; exact this);obtain ⟨b,hb1,hb2⟩:=hd.2.1 j oj t hji hj1 hj3 hj4 hj2 hj5;have hfe:=hst t et y hop;rw [hb1] at hfe;subst hfe;have n1:∀ l:List Nat,(∀ c,c∈l->c<b)->disj l (zS (.ptr b 0))=Od:=by
            intro l hl;unfold disj;refine List.all_eq_true.2 λc hc=>?_;have:=hl c hc;simp [zS]; omega
           have d0:∀ l:List Nat,disj l []=Od:=λl=>by simp [disj]
           unfold Foot.apart;rw [n1 _ (λc hc=>hb2 p hp hpj c (.inr hc)),n1 _ (λc hc=>hb2 p hp hpj c (.inl hc)),g2,hr];simp [d0]
       . cases hs
     . cases hs
 . unfold zcC;by_cases h:(done.all λp=>p.2.apart f)=Od
   . rw [if_pos h]
   . rw [if_neg h];refine List.all_eq_true.2 λp hp=>?_;rw [Bool.or_eq_true];obtain ⟨g1,g2,g3,g4,g5,g6⟩:=hd.1 p hp;have hlt:p.1<ops.length:=Nat.lt_trans g1 (List.getElem?_eq_some_iff.1 hi).1;have d0:∀ l:List Nat,disj l []=Od:=λl=>by simp [disj]
     have d1:∀ l:List Nat,disj [] l=Od:=λl=>rfl;unfold zmx at hs;rw [hi] at hs;simp only [Bool.or_eq_true,Bool.and_eq_true] at hs;rcases hs with q | ⟨q1,q2⟩
     . left;rw [hnf q];unfold Foot.apart;simp [d0,g2]
     . have:=List.all_eq_true.1 q2 p.1 (List.mem_range.2 g1);rw [Bool.or_eq_true] at this;rcases this with q | q
       . exact .inr q
       . left;rw [List.getElem?_eq_getElem hlt] at q;obtain ⟨k1,k2,k3,_⟩:=g6 _ (List.getElem?_eq_getElem hlt) q;have e:disj p.2.rd f.wr=Od:=by
          unfold disj;refine List.all_eq_true.2 λc hc=>?_;have:=k3 c hc;simp only [Bool.not_eq_true',List.contains_eq_mem,decide_eq_false_iff_not];intro hm;exact this (hfo.wr c hm).2
         unfold Foot.apart;rw [k1,k2,g2,hf,how q1,e];simp [d1]
 . unfold zcC;by_cases h:(done.all λp=>p.2.apart f)=Od
   . rw [if_pos h]
   . rw [if_neg h];refine List.all_eq_true.2 λp hp=>?_;rw [Bool.or_eq_true];obtain ⟨g1,g2,g3,g4,g5,g6⟩:=hd.1 p hp;have hlt:p.1<ops.length:=Nat.lt_trans g1 (List.getElem?_eq_some_iff.1 hi).1;have hpe:=List.getElem?_eq_getElem hlt;have d0:∀ l:List Nat,disj l []=Od:=λl=>by simp [disj]
     have d1:∀ l:List Nat,disj [] l=Od:=λl=>rfl;have dj:∀ a b:List Nat,(∀ x∈a,x∉b)->disj a b=Od:=λa b q=>by
      unfold disj;exact List.all_eq_true.2 λx hx=>by simpa using q x hx
     unfold zpu at hs;rw [hi] at hs;simp only [Bool.or_eq_true,Bool.and_eq_true] at hs;have hdist:=hd.2.2.2.2.2.2;rcases hs with (hs | ⟨q1,q2⟩) | hs
     . split at hs
       case h_2=>cases hs
       rename_i r hr;have:=List.all_eq_true.1 hs p.1 (List.mem_range.2 g1);rw [Bool.or_eq_true] at this;rcases this with q | q
       . exact .inr q
       . left;rw [hpe] at q;obtain ⟨t,a,e1,e2,e3⟩:=ziT hr;have hfe:=hld t a e1;have hsub:=hd.2.2.at (Nat.le_refl _) e2;have hwr:disj p.2.wr f.rd=Od:=by
          simp only [Bool.or_eq_true] at q;rcases q with (q | q) | q
          . rw [g3 _ hpe q]; exact d1 _
          . refine dj _ _ λx hx hxr=>?_;rw [hfe] at hxr;exact hd.2.2.2.1 r e3 (zcG e2) p hp _ hpe q x (hsub x hxr) hx
          . obtain ⟨r',k1,k2⟩:=zmy q;obtain ⟨t',a',y',c1,c2,c3⟩:=ziU k1;refine dj _ _ λx hx hxr=>?_;rw [hfe] at hxr;exact hdist r' c3 r e3 k2 (zcG c2) (zcG e2) x ((hd.2.2.2.2.2.1 p hp _ t' a' y' hpe c1).2 r' c2 x hx) (hsub x hxr)
         rw [hfe] at hwr ⊢;unfold Foot.apart;rw [hwr,g2];simp [d0]
     . have:=List.all_eq_true.1 q2 p.1 (List.mem_range.2 g1);rw [Bool.or_eq_true] at this;rcases this with q | q
       . exact .inr q
       . left;rw [hpe,Bool.or_eq_true] at q;have ⟨k1,k2,k3⟩:p.2.wr=[]/\p.2.rall=Oc/\disj p.2.rd f.wr=Od:=by
          rcases q with q | q
          . obtain ⟨k1,k2,k3,_⟩:=g6 _ hpe q;exact ⟨k1,k2,dj _ _ λc hc hm=>k3 c hc (hfo.wr c hm).2⟩
          . obtain ⟨r,hr⟩:=Option.isSome_iff_exists.1 q;obtain ⟨t,a,e1,e2,e3⟩:=ziT hr;refine ⟨g3 _ hpe (by rw [e1]; rfl),g4 _ hpe (by rw [e1]; rfl),dj _ _ λc hc hm=>?_⟩;exact hap q1 r e3 c (hd.2.2.2.2.1 p hp _ t a hpe e1 r e2 c hc) hm
         have hfr:f.rall=Oc:=how (by
          unfold zhR at q1;split at q1
          . rename_i c e;split at q1
            . rename_i e2; rw [e]; simp only [zkm,e2]
            . cases q1
          . cases q1)
         unfold Foot.apart;rw [k1,k2,g2,hf,hfr,k3];simp [d1]
     . split at hs
       case h_2=>cases hs
       rename_i r hr;have:=List.all_eq_true.1 hs p.1 (List.mem_range.2 g1);rw [Bool.or_eq_true] at this;rcases this with q | q
       . exact .inr q
       . left;rw [hpe] at q;obtain ⟨t,a,y,e1,e2,e3⟩:=ziU hr;have hfe:=hst a t y e1;have hsub:=hd.2.2.at (Nat.le_refl _) e2;have ⟨k1,k2,k3⟩:disj p.2.wr f.wr=Od/\p.2.rall=Oc/\disj p.2.rd f.wr=Od:=by
          simp only [Bool.or_eq_true] at q;rcases q with q | q | q
          . obtain ⟨k1,k2,k3,_⟩:=g6 _ hpe q;exact ⟨by rw [k1]; exact d1 _,k2,dj _ _ λc hc hm=>k3 c hc (hfo.wr c hm).2⟩
          . obtain ⟨r',c0,c1⟩:=zmy q;obtain ⟨t',a',c2,c3,c4⟩:=ziT c0;refine ⟨by rw [g3 _ hpe (by rw [c2]; rfl)]; exact d1 _,g4 _ hpe (by rw [c2]; rfl),dj _ _ λc hc hm=>?_⟩;rw [hfe] at hm;exact hdist r e3 r' c4 (λe=>c1 e.symm) (zcG e2) (zcG c3) c (hsub c hm) (hd.2.2.2.2.1 p hp _ t' a' hpe c2 r' c3 c hc)
          . obtain ⟨r',c0,c1⟩:=zmy q;obtain ⟨t',a',y',c2,c3,c4⟩:=ziU c0;obtain ⟨z1,z2⟩:=hd.2.2.2.2.2.1 p hp _ t' a' y' hpe c2;refine ⟨dj _ _ λc hc hm=>?_,g4 _ hpe (by rw [c2]; rfl),by rw [z1]; exact d1 _⟩;rw [hfe] at hm;exact hdist r e3 r' (znB c4) (λe=>c1 e.symm) (zcG e2) (zcG c3) c (hsub c hm) (z2 r' c3 c hc)
         rw [hfe] at k1 k3 ⊢;unfold Foot.apart;rw [k1,k2,k3,g2];simp [d0]
theorem zrU (ev:Operand->zd) {o:Oper} {et:TypeId} {t:Nat} (ho:o.op=.load et (.tmp t)):foot ev o=⟨zS (ev (.tmp t)),Oc,[],Oc⟩:=by unfold foot; rw [ho]
theorem zrV (ev:Operand->zd) {o:Oper} {et:TypeId} {t:Nat} {y:Operand} (ho:o.op=.store et (.tmp t) y):foot ev o=⟨[],Oc,zS (ev (.tmp t)),Oc⟩:=by unfold foot; rw [ho]
theorem zrW (ev:Operand->zd) {o:Oper} (h:notCall o.op=Od):(foot ev o).rall=Oc:=by
 unfold foot;cases ho:o.op<;>rw [ho] at h<;>(try rfl);cases h
theorem zrX {T:Tab} {ev:Operand->zd} {h h':za} {o:Op} {v:zd} (ha:zgB o=Od) (hv:aop T ev h o=Ob (.val v h')):v=.ptr h.next 0/\h'.next=h.next+1:=by
 cases o<;>simp only [zgB] at ha<;>(try (cases ha; done))
 . simp only [aop,zf1] at hv;split at hv
   . cases hv; exact ⟨rfl,rfl⟩
   . cases hv
 . simp only [aop,zj1] at hv;split at hv
   . cases hv
   . cases hv; exact ⟨rfl,rfl⟩
theorem ziV {T:Tab} {ev:Operand->zd} {h:za} {o:Op} {f:zd} {vs:List zd} (ha:zgB o=Od) (hv:aop T ev h o=Ob (.call f vs)):False:=by
 cases o<;>simp only [zgB] at ha<;>(try (cases ha; done))
 . simp only [aop,zf1] at hv;split at hv<;>cases hv
 . simp only [aop,zj1] at hv;split at hv<;>cases hv
theorem zij {fr:zi} {d:Option Nat} {v:zd} {t:Nat} (h:d≠Ob t):(putDst fr d v).ev t=fr.ev t:=by
 cases d with
 | none=>rfl
 | some d=>rw [zaU,zi.ev_set,if_neg (λe=>h (by rw [e]))]
theorem zlL.next {ops:List Oper} {ol:List Nat} {z z':Store} {i:Nat} {fr:zi} {h h':za} {done:List (Nat×Foot)} {o:Oper} {v:zd} (hd:zlL ops ol z i fr h done) (hi:ops[i]?=Ob o) (hz:z.le z') (hn:h.next<=h'.next) (new:List (Nat×Foot))
 (hnew:∀ p∈new,p.1=i/\p.2.wall=Oc/\(zg1 o.op=Od->p.2.wr=[])/\(notCall o.op=Od->p.2.rall=Oc)/\(∀ b,b∈p.2.rd\/b∈p.2.wr->b<h'.next)/\(zeG ol i o.op=Od->p.2.wr=[]/\p.2.rall=Oc/\(∀ b,b∈p.2.rd->z b≠Oe)/\(ziS o.op=Od->p.2.rd=[])))
 (hal:zgB o.op=Od->o.guard=Oe->∀ t,o.dst=Ob t->∃ b,(putDst fr o.dst v).ev t=.ptr b 0/\h.next<=b)
 (hfa:∀ r,zkn o.op=Ob r->∀ x∈zS v,x∈zS (fr.ev r)) (hld:∀ p∈new,∀ t a,o.op=.load t (.tmp a)->∀ x∈p.2.rd,x∈zS (fr.ev a))
 (hap:∀ p∈new,zhR o.op=Od->∀ r∈zcM ol,∀ x∈zS (fr.ev r),x∉p.2.wr) (hsw:∀ p∈new,∀ t a y,o.op=.store t (.tmp a) y->p.2.rd=[]/\∀ x∈p.2.wr,x∈zS (fr.ev a)):zlL ops ol z' (i+1) (putDst fr o.dst v) h' (new++done):=by
 have up:∀ b,z b≠Oe->z' b≠Oe:=λb hb=>by
  cases e:z b with
  | none=>exact absurd e hb
  | some x=>rw [hz b x e]; exact λq=>by cases q
 refine ⟨λp hp=>?_,λj oj t hj hoj ha hg hdst hu=>?_,λj oj r a hj hoj hop hdst hfx hon=>?_,λr hr hfx p hp oj hoj hia=>?_,λp hp oj t a hoj hop r hrl=>?_,λp hp oj t a y hoj hop=>?_,λr hr r' hr' hne hfx hfx'=>?_⟩
 case refine_3=>
  have hne:o.dst≠Ob r:=by
   rcases hfx with q | ⟨k,hk,q⟩
   . exact zeH q hi
   . exact zlM q hi J
  rw [zij hne];by_cases e:j=i
  . subst e;rw [hi] at hoj; cases hoj;rw [hdst,zaU,zi.ev_set,if_pos rfl];exact hfa r hop
  . rw [zij (zlM hon hi (λq=>e q.symm))];exact hd.2.2.1 j oj r a J hoj hop hdst hfx hon
 case refine_4=>
  rw [zij (zeH hfx hi)];rcases List.mem_append.1 hp with hp | hp
  . obtain ⟨e,_⟩:=hnew p hp;rw [e,hi] at hoj; cases hoj;exact hap p hp hia r hr
  . exact hd.2.2.2.1 r hr hfx p hp oj hoj hia
 case refine_5=>
  rw [zij (zeH (zcG hrl) hi)];rcases List.mem_append.1 hp with hp | hp
  . obtain ⟨e,_⟩:=hnew p hp;rw [e] at hrl hoj;rw [hi] at hoj; cases hoj;exact λx hx=>hd.2.2.at (Nat.le_refl _) hrl x (hld p hp t a hop x hx)
  . exact hd.2.2.2.2.1 p hp oj t a hoj hop r hrl
 case refine_6=>
  rcases List.mem_append.1 hp with hp | hp
  . obtain ⟨e,_⟩:=hnew p hp;rw [e,hi] at hoj; cases hoj;obtain ⟨z1,z2⟩:=hsw p hp t a y hop;refine ⟨z1,λr hrl x hx=>?_⟩;rw [zij (zeH (zcG hrl) hi)];rw [e] at hrl;exact hd.2.2.at (Nat.le_refl _) hrl x (z2 x hx)
  . obtain ⟨z1,z2⟩:=hd.2.2.2.2.2.1 p hp oj t a y hoj hop;refine ⟨z1,λr hrl x hx=>?_⟩;rw [zij (zeH (zcG hrl) hi)];exact z2 r hrl x hx
 case refine_7=>
  rw [zij (zeH hfx hi),zij (zeH hfx' hi)];exact hd.2.2.2.2.2.2 r hr r' hr' hne hfx hfx'
 . rcases List.mem_append.1 hp with hp | hp
   . obtain ⟨e,h1,h2,h3,h4,h5⟩:=hnew p hp;refine ⟨by omega,h1,λo' ho'=>?_,λo' ho'=>?_,h4,λo' ho' hq=>?_⟩
     . rw [e,hi] at ho'; cases ho'; exact h2
     . rw [e,hi] at ho'; cases ho'; exact h3
     . rw [e] at hq ho'; rw [hi] at ho'; cases ho';obtain ⟨k1,k2,k3,k4⟩:=h5 hq;exact ⟨k1,k2,λb hb=>up b (k3 b hb),k4⟩
   . obtain ⟨h1,h2,h3,h4,h5,h6⟩:=hd.1 p hp;refine ⟨by omega,h2,h3,h4,λb hb=>Nat.lt_of_lt_of_le (h5 b hb) hn,λo' ho' hq=>?_⟩;obtain ⟨k1,k2,k3,k4⟩:=h6 o' ho' hq;exact ⟨k1,k2,λb hb=>up b (k3 b hb),k4⟩
 . by_cases e:j=i
   . subst e;rw [hi] at hoj; cases hoj;obtain ⟨b,h1,h2⟩:=hal ha hg t hdst;refine ⟨b,h1,λp hp hpj c hc=>?_⟩;rcases List.mem_append.1 hp with hp | hp
     . obtain ⟨e,_⟩:=hnew p hp; omega
     . exact Nat.lt_of_lt_of_le ((hd.1 p hp).2.2.2.2.1 c hc) h2
   . obtain ⟨b,h1,h2⟩:=hd.2.1 j oj t J hoj ha hg hdst hu;refine ⟨b,by rw [zij (hu i o J hi)]; exact h1,λp hp hpj c hc=>?_⟩;rcases List.mem_append.1 hp with hp | hp
     . obtain ⟨e,_⟩:=hnew p hp; omega
     . exact h2 p hp hpj c hc
theorem zmz (ev:Operand->zd) {o:Oper} (h:zdl o.op=Od):foot ev o=⟨[],Oc,[],Oc⟩:=by
 unfold foot;cases ho:o.op<;>rw [ho] at h<;>simp only [zdl] at h<;>(try (cases h; done))<;>(try rfl);rename_i c;cases hc:c.callee with
 | value f=>rw [hc] at h; cases h
 | invoke r m=>rw [hc] at h; cases h
 | builtin bb=>
  rw [hc] at h;cases bb<;>simp at h<;>simp [hc]
theorem zuq (ev:Operand->zd) {o:Oper} (h:zkm o.op=Od):(foot ev o).rall=Oc:=by
 unfold foot;cases ho:o.op<;>rw [ho] at h<;>simp only [zkm] at h<;>(try (cases h; done))<;>(try rfl);rename_i c;cases hc:c.callee with
 | value f=>rw [hc] at h; cases h
 | invoke r m=>rw [hc] at h; cases h
 | builtin bb=>
  rw [hc] at h;cases bb<;>simp at h<;>simp [hc]
theorem znC (ev:Operand->zd) (o:Oper):(foot ev o).wall=Oc:=by
 unfold foot;split<;>(try rfl);split<;>rfl
def zm (C:Ctx) (T:Tab) (d:Option (List Nat)) (ops rest:List Oper) (M:Env) (L:Own) (Q:zi->za->Prop):Prop:=
 match d with
 | none=>∀ fr h,St C M L fr h->wX T ops rest fr h Q
 | some ol=>∀ z fr h i done,StZ C M L z fr h->ops.drop i=rest->znA ops ol ops.length=Od->zlL ops ol z i fr h done->Draw T ops rest i done fr h Q
def zeW (C:Ctx) (T:Tab) (c:Code) (M:Env) (L:Own) (P:zaQ->zi->za->Prop):Prop:=∀ fr h,St C M L fr h->Run T c fr h P
section
variable {C:Ctx} {T:Tab} {d:Option (List Nat)} {ops rest:List Oper} {M:Env} {L:Own} {Q:zi->za->Prop} {P:zaQ->zi->za->Prop} {o:Oper}
inductive Want (ops:List Oper) (M:Env) (w:Bool):Option (Nat×Bool)->Prop where
 | n (h:w=Od):Want ops M w Oe
 | g {j t:Nat} {want b:Bool} (h1:(ops[j]?).bind (λ(o:Oper)=>o.dst)=Ob t) (h2:look M t=Ob (.val zw b)) (h3:(b==want)=w):Want ops M w (Ob (j,want))
 | u {j t:Nat} {want:Bool} (hw:w=Oc) (h1:(ops[j]?).bind (λ(o:Oper)=>o.dst)=Ob t) (h2:look M t=Ob (.raw unit)):Want ops M w (Ob (j,want))
theorem zoH {z:Store} {v:zd} {b:Bool} (t:TV zw z v b):v=.bool b:=by
 have h1:=t.agg;have h2:=t.rel;cases v<;>simp_all [zd.isAgg,zd.cells,zw]
theorem zpw {z:Store} {v:zd} {k:IntKind} {n:Int} (t:TV (zh k) z v n):v=.int k n:=by
 have h1:=t.agg;have h2:=t.rel;cases v<;>simp_all [zd.isAgg,zd.cells,zh]
theorem zbW {z:Store} {k:IntKind} {n:Int} (h1:k.min<=n) (h2:n<=k.max):TV (zh k) z (.int k n) n:=⟨⟨rfl,h1,h2⟩,rfl⟩
theorem zec {z:Store} {v:zd} {k:IntKind} {n:Int} (t:TV (zh k) z v n):k.min<=n/\n<=k.max:=t.rel.2
theorem zcQ {z:Store} {b:Bool}:TV zw z (.bool b) b:=⟨rfl,rfl⟩
theorem zfX {A:Type} {R:Rep A} {z:Store} {v:zd} {xs:List A} (t:TV (zb R) z v xs):zg0 R z v xs:=by
 obtain ⟨h1,h2⟩:=t;obtain ⟨w,h3,h4⟩:=h1;cases v<;>simp_all [zd.isAgg,zd.cells,zb]
theorem zbU {A:Type} {R:Rep A} {z:Store} {v:zd} {xs:List A} (r:zg0 R z v xs):TV (zb R) z v xs:=by
 rcases r.2 with ⟨rfl,_⟩ | ⟨b,off,cap,rfl,_⟩ | ⟨b,off,cap,cells,ro,rfl,_⟩<;>exact ⟨⟨_,rfl,r⟩,rfl⟩
theorem zik {A:Type} {R:Rep A} {z:Store} {v:zd} {x:A} (t:TV (zL R) z v x):zqE R z v x:=by
 obtain ⟨h1,h2⟩:=t;obtain ⟨w,h3,h4⟩:=h1;cases v<;>simp_all [zd.isAgg,zd.cells,zL]
theorem zgc {A:Type} {R:Rep A} {z:Store} {v:zd} {x:A} (r:zqE R z v x):TV (zL R) z v x:=by
 obtain ⟨b,off,cells,ro,rfl,h⟩:=r;exact ⟨⟨_,rfl,b,off,cells,ro,rfl,h⟩,rfl⟩
theorem Want.ok {w:Bool} {g:Option (Nat×Bool)} (q:Want ops M w g) {z:Store} {fr:zi} (hf:ziJ z M fr):awanted ops fr g=Ob w:=by
 cases q with
 | n h=>rw [h]; rfl
 | g h1 h2 h3=>
  have:=zoH (by simpa only [TE.ok] using hf _ _ h2);rw [zrN h1 this,h3]
 | u hw h1 h2=>
  have:=hf _ _ h2;simp only [TE.ok] at this;subst hw;unfold awanted;simp only [h1,this,unit]
theorem zdD (q:∀ fr h,St C M L fr h->Q fr h):zm C T d ops [] M L Q:=by
 cases d with
 | none=>exact λfr h s=>q fr h s
 | some ol=>exact λz fr h i done s _ _ _=>zps (q fr h ⟨z,s⟩)
theorem zdh {M':Env} {L':Own} (q:∀ z fr h,StZ C M L z fr h->∃ z',z.le z'/\StZ C M' L' z' fr h) (r:zm C T d ops rest M' L' Q):zm C T d ops rest M L Q:=by
 cases d with
 | none=>
  intro fr h ⟨z,s⟩;obtain ⟨z',_,s'⟩:=q z fr h s;exact r fr h ⟨z',s'⟩
 | some ol=>
  intro z fr h i done s hr hok hd;obtain ⟨z',hz,s'⟩:=q z fr h s;refine r z' fr h i done s' hr hok ⟨λp hp=>?_,hd.2⟩;obtain ⟨h1,h2,h3,h4,h5,h6⟩:=hd.1 p hp;refine ⟨h1,h2,h3,h4,h5,λo ho hq=>?_⟩;obtain ⟨k1,k2,k3,k4⟩:=h6 o ho hq;refine ⟨k1,k2,λb hb=>?_,k4⟩;cases e:z b with
  | none=>exact absurd e (k3 b hb)
  | some x=>rw [hz b x e]; exact λq=>by cases q
theorem zzc {t:Nat} (hw:Want ops M Oc o.guard) (hd:o.dst=Ob t) (r:zm C T d ops rest ((t,.raw unit)::M) L Q):zm C T d ops (o::rest) M L Q:=by
 cases d with
 | none=>
  intro fr h ⟨z,s⟩;simp only [wX,hw.ok s.fr,hd,zaU];exact r _ _ ⟨z,s.set (by simp only [TE.ok])⟩
 | some ol=>
  intro z fr h i done s hr hok hdn;have hi:ops[i]?=Ob o:=by have:=congrArg (λl=>l[0]?) hr; simpa using this
  have hr':ops.drop (i+1)=rest:=by have:=congrArg List.tail hr; simpa using this
  refine znu (hw.ok s.fr) ?_;have hn:=hdn.next (z':=z) (h':=h) (v:=unit) hi (.refl _) (Nat.le_refl _) [] (λp hp=>by cases hp) (λhal hg t hdst=>by
   have:=hw.ok s.fr;rw [hg] at this; cases this) (λ_ _ x hx=>(nomatch hx)) (λp hp=>by cases hp) (λp hp=>by cases hp) (λp hp=>by cases hp)
  rw [hd,zaU] at hn ⊢;exact r z _ h (i+1) done (s.set (by simp only [TE.ok])) hr' hok hn
def Listed (d:Option (List Nat)) (ops rest:List Oper):Prop:=∀ ol,d=Ob ol->ol.contains (ops.length-(rest.length+1))=Od
def zzd (C:Ctx) (d:Option (List Nat)) (M:Env) (L:Own) (o:Oper):Prop:=zhR o.op=Od->∀ ol,d=Ob ol->∀ r∈zcM ol,∀ z fr h,StZ C M L z fr h->∀ x∈zS (fr.ev r),x∉(foot fr.op o).wr
inductive Rd (C:Ctx) (d:Option (List Nat)) (ops rest:List Oper) (M:Env) (L:Own) (o:Oper):Prop where
 | f (h:∀ z fr h,StZ C M L z fr h->(foot fr.op o).wr=[]/\(foot fr.op o).rall=Oc/\(∀ b,b∈(foot fr.op o).rd->z b≠Oe)/\(ziS o.op=Od->(foot fr.op o).rd=[]))
 | l (h:Listed d ops rest) (hn:zdl o.op=Oc) (ha:zhR o.op=Oc)
 | w (hn:zdl o.op=Oc) (hl:∀ t a,o.op≠.load t a) (hle:zoG o.op=Oc) (ha:zzd C d M L o)
theorem Rd.ok {ol:List Nat} {z:Store} {fr:zi} {h:za} {i:Nat} (q:Rd C (Ob ol) ops rest M L o) (s:StZ C M L z fr h) (hr:ops.drop i=o::rest) (hq:zeG ol i o.op=Od):(foot fr.op o).wr=[]/\(foot fr.op o).rall=Oc/\(∀ b,b∈(foot fr.op o).rd->z b≠Oe)/\(ziS o.op=Od->(foot fr.op o).rd=[]):=by
 have hi:i=ops.length-(rest.length+1):=by
  have:=congrArg List.length hr;simp at this;omega
 cases q with
 | f h=>exact h z fr _ s
 | l h hn ha=>
  have:=h ol rfl;rw [← hi] at this;unfold zeG at hq;rw [hn,Bool.false_or,this,Bool.not_true,Bool.and_false] at hq;cases hq
 | w hn hl hle ha=>
  unfold zeG at hq;rw [hn,Bool.false_or,hle,Bool.false_or,Bool.and_eq_true] at hq;have:=hq.1;unfold znx at this;split at this
  . rename_i t a e; exact absurd e (hl t a)
  . cases this
theorem Rd.app {ol:List Nat} {z:Store} {fr:zi} {h:za} (q:Rd C (Ob ol) ops rest M L o) (s:StZ C M L z fr h) (ha:zhR o.op=Od):∀ r∈zcM ol,∀ x∈zS (fr.ev r),x∉(foot fr.op o).wr:=by
 cases q with
 | f k=>rw [(k z fr _ s).1]; exact λr _ x _ hx=>(nomatch hx)
 | l _ _ hn=>rw [hn] at ha; cases ha
 | w _ _ _ k=>exact λr hr=>k ha ol rfl r hr z fr h s
theorem zmA {fr:zi} {h h':za} {v:zd} {s r f:Nat} (ho:o.op=.fieldAddr s (.tmp r) f) (ha:aop T fr.op h o.op=Ob (.val v h')):∀ x∈zS v,x∈zS (fr.ev r):=by
 rw [ho] at ha;simp only [aop,z6,Option.map] at ha;split at ha
 case h_2=>cases ha
 rename_i w hw;cases ha;unfold zft at hw;split at hw
 . split at hw
   . split at hw
     . rename_i e;rw [zvY] at e;split at hw
       . cases hw
       . cases hw;rw [e];exact λx hx=>hx
     . cases hw
   . cases hw
 . cases hw
theorem zur {fr:zi} {h h':za} {v:zd} {r:Nat} (hl:zkn o.op=Ob r) (ha:aop T fr.op h o.op=Ob (.val v h')):∀ x∈zS v,x∈zS (fr.ev r):=by
 unfold zkn at hl;split at hl
 . rename_i e;cases hl;exact zmA e ha
 . rename_i e;cases hl;rw [e] at ha;simp only [aop,zdz] at ha;split at ha
   case h_4=>cases ha
   all_goals
    rename_i e;rw [zvY] at e;cases ha;rw [e];exact λx hx=>hx
 . rename_i e;cases hl;rw [e] at ha;simp only [aop] at ha;cases ha;exact λx hx=>hx
 . cases hl
theorem zfh (hw:Want ops M Od o.guard) (hrd:Rd C d ops rest M L o)
    (H:∀ z fr h,StZ C M L z fr h->∃ v h' z' M' L',aop T fr.op h o.op=Ob (.val v h')/\zjo z h (foot fr.op o)/\z.le z'/\StZ C M' L' z' (putDst fr o.dst v) h'/\zm C T d ops rest M' L' Q):zm C T d ops (o::rest) M L Q:=by
  cases d with
  | none=>
    intro fr h ⟨z,s⟩;obtain ⟨v,h',z',M',L',ha,_,_,s',r⟩:=H z fr h s;simp only [wX,hw.ok s.fr,ha];exact r _ _ ⟨z',s'⟩
  | some ol=>
    intro z fr h i done s hr hok hd;obtain ⟨v,h',z',M',L',ha,hft,hz,s',r⟩:=H z fr h s;have hi:ops[i]?=Ob o:=by have:=congrArg (λl=>l[0]?) hr; simpa using this
    have hlt:i<ops.length:=(List.getElem?_eq_some_iff.1 hi).1;have hr':ops.drop (i+1)=rest:=by have:=congrArg List.tail hr; simpa using this
    have hk:=zke ha;refine zrR (hw.ok s.fr) ha s.chg.ok rfl (zfW hi hd (zg2 hok i hlt) (znC _ _) hft (zmz _) (zuq _) (λq=>(zjl q).1) (λt et y q=>zrV _ q) (λt a q=>zrU _ q) (λq=>hrd.app s q)) ?_;refine r z' _ h' (i+1) _ s' hr' hok (hd.next (v:=v) hi hz hk.1 [(i,foot fr.op o)] ?_ ?_ (λr q=>zur q ha) ?_ ?_ ?_)
    · intro p hp;rw [List.mem_singleton] at hp;subst hp;exact ⟨rfl,znC _ _,λq=>(zjl q).1,λq=>zrW _ q,λb hb=>Nat.lt_of_lt_of_le (hb.elim (hft.rd b) (λq=>(hft.wr b q).1)) hk.1,λq=>hrd.ok s hr q⟩
    · intro hal hg t hdst;obtain ⟨e1,e2⟩:=zrX hal ha;refine ⟨h.next, ?_,Nat.le_refl _⟩;rw [hdst,zaU,zi.ev_set,if_pos rfl,e1]
    · intro p hp t a q x hx;rw [List.mem_singleton] at hp;subst hp;rw [zrU _ q] at hx;exact hx
    · intro p hp q;rw [List.mem_singleton] at hp;subst hp;exact hrd.app s q
    · intro p hp t a y q;rw [List.mem_singleton] at hp;subst hp;rw [zrV _ q];exact ⟨rfl,λx hx=>hx⟩
theorem nf (h:zdl o.op=Od):Rd C d ops rest M L o:=.f λz fr hh _=>by
 rw [zmz _ h];exact ⟨rfl,rfl,λb hb=>(nomatch hb),λ_=>rfl⟩
theorem nfo {z:Store} {fr:zi} {hh:za} (h:zdl o.op=Od):zjo z hh (foot fr.op o):=by
 rw [zmz _ h];exact ⟨λb hb=>(nomatch hb),λb hb=>(nomatch hb)⟩
theorem zfD {t:Nat} {e:TE} (hrd:Rd C d ops rest M L o) (hft:∀ z fr h,StZ C M L z fr h->zjo z h (foot fr.op o)) (hw:Want ops M Od o.guard) (hd:o.dst=Ob t) (H:∀ z fr h,StZ C M L z fr h->∃ v,aop T fr.op h o.op=Ob (.val v h)/\e.ok z v) (r:zm C T d ops rest ((t,e)::M) L Q):zm C T d ops (o::rest) M L Q:=
 zfh hw hrd λz fr h s=>by
  obtain ⟨v,h1,h2⟩:=H z fr h s;exact ⟨v,h,z,_,_,h1,hft z fr h s,.refl _,by rw [hd,zaU]; exact s.set h2,r⟩
theorem zau {t:Nat} {e:TE} (hn:zdl o.op=Od) (hw:Want ops M Od o.guard) (hd:o.dst=Ob t) (H:∀ z fr h,StZ C M L z fr h->∃ v,aop T fr.op h o.op=Ob (.val v h)/\e.ok z v) (r:zm C T d ops rest ((t,e)::M) L Q):zm C T d ops (o::rest) M L Q:=
 zfD (nf hn) (λ_ _ _ _=>nfo hn) hw hd H r
inductive Opd (M:Env):Operand->TE->Prop where
 | t {t:Nat} {e:TE} (h:look M t=Ob e):Opd M (.tmp t) e
 | i {k:IntKind} {n:Int} (h1:k.min<=n) (h2:n<=k.max):Opd M (.const (.int k n)) (.val (zh k) n)
 | b {b:Bool}:Opd M (.const (.bool b)) (.val zw b)
 | nil {A:Type} {R:Rep A}:Opd M (.const (.slice Oe 0 0)) (.val (zb R) [])
 | nilr:Opd M (.const (.slice Oe 0 0)) (.raw .nsz)
 | f {g:FuncId}:Opd M (.func g) (.raw (.func (.func g) [] []))
 | fv {A:Type} {R:Rep A} {x:A} {g:FuncId} (h:∀ z,TV R z (.func (.func g) [] []) x):Opd M (.func g) (.val R x)
theorem ziW {A:Type} {R:Rep A} {z:Store}:zg0 R z .nsz []:=⟨by simp [maxLen],.inl ⟨rfl,rfl⟩⟩
theorem Opd.ok {x:Operand} {e:TE} (q:Opd M x e) {z:Store} {fr:zi} (hf:ziJ z M fr):e.ok z (fr.op x):=by
 cases q with
 | t h=>exact hf _ _ h
 | i h1 h2=>simp only [TE.ok]; exact zbW h1 h2
 | b=>simp only [TE.ok]; exact zcQ
 | nil=>simp only [TE.ok]; exact zbU ziW
 | nilr=>simp only [TE.ok]; rfl
 | f=>simp only [TE.ok]; rfl
 | fv h=>simp only [TE.ok]; exact h z
theorem Opd.int {x:Operand} {k:IntKind} {n:Int} (q:Opd M x (.val (zh k) n)) {z:Store} {fr:zi} (hf:ziJ z M fr):fr.op x=.int k n:=zpw (by simpa only [TE.ok] using q.ok hf)
theorem Opd.bool {x:Operand} {b:Bool} (q:Opd M x (.val zw b)) {z:Store} {fr:zi} (hf:ziJ z M fr):fr.op x=.bool b:=zoH (by simpa only [TE.ok] using q.ok hf)
theorem Opd.val {A:Type} {R:Rep A} {x:Operand} {a:A} (q:Opd M x (.val R a)) {z:Store} {fr:zi} (hf:ziJ z M fr):TV R z (fr.op x) a:=by simpa only [TE.ok] using q.ok hf
theorem Opd.raw {x:Operand} {v:zd} (q:Opd M x (.raw v)) {z:Store} {fr:zi} (hf:ziJ z M fr):fr.op x=v:=by simpa only [TE.ok] using q.ok hf
variable {t:Nat}
theorem zze {x:Operand} {e:TE} (hw:Want ops M Od o.guard) (ho:o.op=.move x) (hd:o.dst=Ob t) (hx:Opd M x e) (r:zm C T d ops rest ((t,e)::M) L Q):zm C T d ops (o::rest) M L Q:=
 zau (by rw [ho]; rfl) hw hd (λz fr h s=>⟨fr.op x,by rw [ho]; rfl,hx.ok s.fr⟩) r
theorem zeq {x:Operand} {e:TE} (hw:Want ops M Od o.guard) (ho:o.op=.assign x) (hd:o.dst=Ob t) (hx:Opd M x e) (r:zm C T d ops rest ((t,e)::M) L Q):zm C T d ops (o::rest) M L Q:=
 zau (by rw [ho]; rfl) hw hd (λz fr h s=>⟨fr.op x,by rw [ho]; rfl,hx.ok s.fr⟩) r
inductive Ar (k:IntKind) (a b:Int):BinOp->Int->Prop where
 | add:Ar k a b .add (k.wrap (a+b))
 | sub:Ar k a b .sub (k.wrap (a-b))
 | mul:Ar k a b .mul (k.wrap (a*b))
 | quo (h:b≠0):Ar k a b .quo (k.wrap (a.tdiv b))
 | and:Ar k a b .and (k.wrap ((BitVec.ofInt k.bits a &&& BitVec.ofInt k.bits b).toNat))
 | or:Ar k a b .or (k.wrap ((BitVec.ofInt k.bits a ||| BitVec.ofInt k.bits b).toNat))
 | xor:Ar k a b .xor (k.wrap ((BitVec.ofInt k.bits a ^^^ BitVec.ofInt k.bits b).toNat))
 | andNot:Ar k a b .andNot (k.wrap ((BitVec.ofInt k.bits a &&& ~~~ (BitVec.ofInt k.bits b)).toNat))
inductive Cmp (a b:Int):BinOp->Bool->Prop where
 | eql:Cmp a b .eql (a==b)
 | neq:Cmp a b .neq (a !=b)
 | lss:Cmp a b .lss (decide (a<b))
 | leq:Cmp a b .leq (decide (a<=b))
 | gtr:Cmp a b .gtr (decide (a>b))
 | geq:Cmp a b .geq (decide (a>=b))
theorem zed (k:IntKind) (n:Int):k.min<=k.wrap n/\k.wrap n<=k.max:=by
 cases k<;>simp only [IntKind.wrap,IntKind.min,IntKind.max,IntKind.bits,IntKind.signed]<;>simp<;>(try split)<;>omega
theorem zB8 {op:BinOp} {u u':TypeId} {k:IntKind} {x y:Operand} {a b n:Int} (hw:Want ops M Od o.guard) (ho:o.op=.binOp op u x y u') (hd:o.dst=Ob t) (hx:Opd M x (.val (zh k) a)) (hy:Opd M y (.val (zh k) b)) (hr:Ar k a b op n)
 (r:zm C T d ops rest ((t,.val (zh k) n)::M) L Q):zm C T d ops (o::rest) M L Q:=by
 refine zau (by rw [ho]; rfl) hw hd (λz fr h s=>⟨.int k n, ?_, ?_⟩) r
 . rw [ho];simp only [aop,abin,hx.int s.fr,hy.int s.fr];cases hr<;>simp_all [aint,z6]
 . simp only [TE.ok];have:∃ m,n=k.wrap m:=by cases hr<;>exact ⟨_,rfl⟩
   obtain ⟨m,rfl⟩:=this;exact zbW (zed k m).1 (zed k m).2
end
structure FOk {A B:Type} (R:Rep A) (off:Nat) (S:Rep B) (g:A->B) (w:A->B->A):Prop where
 fit:off+S.sz<=R.sz
 get:∀ z cs x,R.rel z cs x->S.rel z ((cs.drop off).take S.sz) (g x)
 set:∀ z cs x ds y,R.rel z cs x->S.rel z ds y->R.rel z (cs.take off++ds++cs.drop (off+S.sz)) (w x y)
theorem FOk.self {A:Type} {R:Rep A}:FOk R 0 R (λx=>x) (λ_ y=>y):=
 ⟨by omega,λz cs x h=>by rw [List.drop_zero,← R.len _ _ _ h,List.take_length]; exact h,λz cs x ds y h h'=>by rw [List.take_zero,Nat.zero_add,← R.len _ _ _ h,List.drop_length]; simpa using h'⟩
theorem FOk.here {A B:Type} {R:Rep A} {S:Rep B}:FOk (zC R S) 0 R (λx=>x.1) (λx y=>(y,x.2)):=
 ⟨by simp [zC],λz cs x h=>by
  obtain ⟨c1,c2,rfl,h1,h2⟩:=h;rw [List.drop_zero,← R.len _ _ _ h1,List.take_left']
  ·exact h1
  ·rfl,λz cs x ds y h h'=>by
  obtain ⟨c1,c2,rfl,h1,h2⟩:=h;refine ⟨ds,c2, ?_,h',h2⟩;rw [List.take_zero,Nat.zero_add,← R.len _ _ _ h1,List.drop_left']
  ·simp
  ·rfl⟩
theorem FOk.there {A B D:Type} {R:Rep A} {S:Rep B} {U:Rep D} {off:Nat} {g:B->D} {w:B->D->B} (f:FOk S off U g w):FOk (zC R S) (R.sz+off) U (λx=>g x.2) (λx y=>(x.1,w x.2 y)):=
 ⟨by have:=f.fit; simp only [zC]; omega,λz cs x h=>by
  obtain ⟨c1,c2,rfl,h1,h2⟩:=h;rw [List.drop_append,List.drop_eq_nil_of_le (by rw [R.len _ _ _ h1]; omega),R.len _ _ _ h1,Nat.add_sub_cancel_left,List.nil_append];exact f.get _ _ _ h2,λz cs x ds y h h'=>by
  obtain ⟨c1,c2,rfl,h1,h2⟩:=h;refine ⟨c1,_, ?_,h1,f.set _ _ _ _ _ h2 h'⟩;rw [List.take_append,List.take_of_length_le (by rw [R.len _ _ _ h1]; omega),List.drop_append,List.drop_eq_nil_of_le (by rw [R.len _ _ _ h1]; omega),R.len _ _ _ h1,Nat.add_sub_cancel_left,Nat.add_assoc,Nat.add_sub_cancel_left];simp⟩
theorem FOk.off {A B:Type} {R:Rep A} {o o':Nat} {S:Rep B} {g:A->B} {w:A->B->A} (f:FOk R o S g w) (e:o=o'):FOk R o' S g w:=e▸f
structure Und (T:Tab) (t:TypeId) {A:Type} (R:Rep A):Prop where
 sz:szT T t=Ob R.sz
 agg:zeb T t=Ob R.agg
structure Sl (T:Tab) (st:TypeId) (et:TypeId) {A:Type} (R:Rep A):Prop where
 und:T.und st=Ob (.slice et)
 sz:szT T et=Ob R.sz
 agg:zeb T et=Ob R.agg
 pos:0<R.sz
structure Fld (T:Tab) (s:TypeId) (i:Nat) (ft:TypeId) (off n:Nat):Prop where
 fld:∃ fs f,T.und s=Ob (.struct fs)/\fs[i]?=Ob f/\f.offset=off/\f.type=ft
 sz:szT T ft=Ob n
section
variable {C:Ctx} {T:Tab} {d:Option (List Nat)} {ops rest:List Oper} {M:Env} {L:Own} {Q:zi->za->Prop} {P:zaQ->zi->za->Prop} {o:Oper} {t:Nat}
theorem zfi {A:Type} {R:Rep A} {et:TypeId} {cells:List zd} {off:Nat} {z:Store} {x:A} (hs:szT T et=Ob R.sz) (ha:zeb T et=Ob R.agg) (hl:off+R.sz<=cells.length) (hr:R.rel z ((cells.drop off).take R.sz) x) :
    ∃ v,apart T et cells off=Ob v/\TV R z v x:=by
  unfold apart;rw [ha];cases hb:R.agg with
  | true=>
    simp only [hs];rw [if_pos hl];exact ⟨_,rfl,hr,hb.symm⟩
  | false=>
    have h1:=R.one hb;have hlt:off<cells.length:=J
    simp only [List.getElem?_eq_getElem hlt];refine ⟨_,rfl, ?_, ?_⟩;all_goals rw [h1] at hr
    all_goals have e:(cells.drop off).take 1=[cells[off]]:=by
                rw [List.drop_eq_getElem_cons hlt]; rfl
    all_goals rw [e] at hr
    all_goals have ho:=R.ones _ _ _ hr
    all_goals simp only [List.all_cons,List.all_nil,Bool.and_true] at ho
    · have:cells[off].cells=[cells[off]]:=by
        cases hc:cells[off]<;>rw [hc] at ho<;>simp_all [zd.cells,zd.one]
      rw [this]; exact hr
    · rw [hb];cases hc:cells[off]<;>rw [hc] at ho<;>simp_all [zd.isAgg,zd.one]
theorem zAY {op:BinOp} {u u':TypeId} {k:IntKind} {x y:Operand} {a b:Int} {q:Bool} (hw:Want ops M Od o.guard) (ho:o.op=.binOp op u x y u') (hd:o.dst=Ob t) (hx:Opd M x (.val (zh k) a)) (hy:Opd M y (.val (zh k) b)) (hr:Cmp a b op q)
 (r:zm C T d ops rest ((t,.val zw q)::M) L Q):zm C T d ops (o::rest) M L Q:=by
 refine zau (by rw [ho]; rfl) hw hd (λz fr h s=>⟨.bool q, ?_,by simp only [TE.ok]; exact zcQ⟩) r;rw [ho];simp only [aop,abin,hx.int s.fr,hy.int s.fr];cases hr<;>simp [aint,z6]
theorem zrY {a:Int} (b:Int) (h:0<=a):a.tmod b<=a:=by
 obtain ⟨n,rfl⟩:=Int.eq_ofNat_of_zero_le h;rcases Int.lt_or_le b 0 with hb | hb
 . obtain ⟨m,hm⟩:=Int.eq_ofNat_of_zero_le (show 0<=-b by omega);have:b=-(m:Int):=J
   subst this;rw [Int.tmod_neg];exact Int.ofNat_le.2 (Nat.mod_le n m)
 . obtain ⟨m,rfl⟩:=Int.eq_ofNat_of_zero_le hb;exact Int.ofNat_le.2 (Nat.mod_le n m)
theorem zAZ {u u':TypeId} {k:IntKind} {x y:Operand} {a b:Int} (hw:Want ops M Od o.guard) (ho:o.op=.binOp .rem u x y u') (hd:o.dst=Ob t) (hx:Opd M x (.val (zh k) a)) (hy:Opd M y (.val (zh k) b)) (hb:b≠0)
 (r:zm C T d ops rest ((t,.val (zh k) (a.tmod b))::M) L Q):zm C T d ops (o::rest) M L Q:=by
 refine zau (by rw [ho]; rfl) hw hd (λz fr h s=>⟨.int k (a.tmod b), ?_, ?_⟩) r
 . rw [ho];simp only [aop,abin,hx.int s.fr,hy.int s.fr,aint];simp [hb,z6]
 . simp only [TE.ok];have h1:=zec (hx.val s.fr);have h2:a.tmod b<=a\/a.tmod b<=0:=by
    rcases Int.lt_or_le a 0 with h | h
    . right;have:=Int.neg_tmod (-a) b;have:=Int.tmod_nonneg b (show 0<=-a by omega);have e:a.tmod b=-((-a).tmod b):=by rw [Int.neg_tmod]; omega
      omega
    . left; exact zrY b h
   have h3:a<=a.tmod b\/0<=a.tmod b:=by
    rcases Int.lt_or_le a 0 with h | h
    . left;have:=zrY b (show 0<=-a by omega);have e:a.tmod b=-((-a).tmod b):=by rw [Int.neg_tmod]; omega
      omega
    . right; exact Int.tmod_nonneg b h
   have hm:k.min<=0/\0<=k.max:=by cases k<;>simp [IntKind.min,IntKind.max,IntKind.bits,IntKind.signed]
   exact zbW J J
theorem zA0 {u u':TypeId} {k k':IntKind} {x y:Operand} {a b:Int} (hw:Want ops M Od o.guard) (ho:o.op=.binOp .shl u x y u') (hd:o.dst=Ob t) (hx:Opd M x (.val (zh k) a)) (hy:Opd M y (.val (zh k') b)) (hb:0<=b)
 (r:zm C T d ops rest ((t,.val (zh k) (k.wrap (a*2 ^ (min b.toNat k.bits))))::M) L Q):zm C T d ops (o::rest) M L Q:=by
 refine zau (by rw [ho]; rfl) hw hd (λz fr h s=>⟨.int k (k.wrap (a*2 ^ (min b.toNat k.bits))), ?_, ?_⟩) r
 . rw [ho];simp only [aop,abin,hx.int s.fr,hy.int s.fr,aint];rw [if_neg J]; rfl
 . simp only [TE.ok]; exact zbW (zed _ _).1 (zed _ _).2
theorem zA1 {u u':TypeId} {k k':IntKind} {x y:Operand} {a b:Int} (hw:Want ops M Od o.guard) (ho:o.op=.binOp .shr u x y u') (hd:o.dst=Ob t) (hx:Opd M x (.val (zh k) a)) (hy:Opd M y (.val (zh k') b)) (hb:0<=b)
 (r:zm C T d ops rest ((t,.val (zh k) (a.fdiv (2 ^ (min b.toNat k.bits))))::M) L Q):zm C T d ops (o::rest) M L Q:=by
 refine zau (by rw [ho]; rfl) hw hd (λz fr h s=>⟨.int k (a.fdiv (2 ^ (min b.toNat k.bits))), ?_, ?_⟩) r
 . rw [ho];simp only [aop,abin,hx.int s.fr,hy.int s.fr,aint];rw [if_neg J]; rfl
 . simp only [TE.ok];have h1:=zec (hx.val s.fr);have hm:k.min<=0/\0<=k.max/\k.min<=-1\/k.min=0:=by cases k<;>simp [IntKind.min,IntKind.max,IntKind.bits,IntKind.signed]
   have hp:(0:Int)<2 ^ (min b.toNat k.bits):=Int.pow_pos Oa;rw [Int.fdiv_eq_ediv_of_nonneg _ (Int.le_of_lt hp)];have e:=Int.emod_add_mul_ediv a (2 ^ (min b.toNat k.bits));have e1:=Int.emod_nonneg a (Int.ne_of_gt hp);generalize (2:Int) ^ (min b.toNat k.bits)=p at *
   refine zbW ?_ ?_
   . rcases Int.lt_or_le a 0 with h | h
     . have:a<=a/p:=by
        rw [Int.le_ediv_iff_mul_le hp];have:=Int.mul_le_mul_of_nonpos_left (show a<=0 by omega) (show (1:Int)<=p by omega);omega
       omega
     . have:=Int.ediv_nonneg h (Int.le_of_lt hp); omega
   . rcases Int.lt_or_le a 0 with h | h
     . have:=Int.ediv_neg_of_neg_of_pos h hp;have hm2:0<=k.max:=by cases k<;>simp [IntKind.max,IntKind.bits,IntKind.signed]
       omega
     . have:=Int.ediv_le_self p h; omega
theorem zA2 {u:TypeId} {x:Operand} {a:Bool} (hw:Want ops M Od o.guard) (ho:o.op=.unOp .not u x) (hd:o.dst=Ob t) (hx:Opd M x (.val zw a))
 (r:zm C T d ops rest ((t,.val zw (!a))::M) L Q):zm C T d ops (o::rest) M L Q:=by
 refine zau (by rw [ho]; rfl) hw hd (λz fr h s=>⟨.bool (!a), ?_,by simp only [TE.ok]; exact zcQ⟩) r;rw [ho];simp [aop,aun,hx.bool s.fr,z6]
theorem zA3 {u:TypeId} {k:IntKind} {x:Operand} {a:Int} (hw:Want ops M Od o.guard) (ho:o.op=.unOp .neg u x) (hd:o.dst=Ob t) (hx:Opd M x (.val (zh k) a))
 (r:zm C T d ops rest ((t,.val (zh k) (k.wrap (0-a)))::M) L Q):zm C T d ops (o::rest) M L Q:=by
 refine zau (by rw [ho]; rfl) hw hd (λz fr h s=>⟨.int k (k.wrap (0-a)), ?_,by simp only [TE.ok]; exact zbW (zed _ _).1 (zed _ _).2⟩) r;rw [ho];simp [aop,aun,hx.int s.fr,z6,aint]
theorem zzf {u u':TypeId} {k k':IntKind} {x:Operand} {a:Int} (h1:(T.und u).isSome=Od) (h2:T.und u'=Ob (.int k')) (hw:Want ops M Od o.guard) (ho:o.op=.convert u u' x) (hd:o.dst=Ob t) (hx:Opd M x (.val (zh k) a))
 (r:zm C T d ops rest ((t,.val (zh k') (k'.wrap a))::M) L Q):zm C T d ops (o::rest) M L Q:=by
 refine zau (by rw [ho]; rfl) hw hd (λz fr h s=>⟨.int k' (k'.wrap a), ?_,by simp only [TE.ok]; exact zbW (zed _ _).1 (zed _ _).2⟩) r;rw [ho];cases e:T.und u with
 | none=>rw [e] at h1; cases h1
 | some q=>simp [aop,aconvert,hx.int s.fr,h2,e,z6]
theorem zwN {c x y:Operand} {e:TE} (hw:Want ops M Od o.guard) (ho:o.op=.pick c x y) (hd:o.dst=Ob t) (hc:Opd M c (.val zw Od)) (hx:Opd M x e)
 (r:zm C T d ops rest ((t,e)::M) L Q):zm C T d ops (o::rest) M L Q:=by
 refine zau (by rw [ho]; rfl) hw hd (λz fr h s=>⟨fr.op x, ?_,hx.ok s.fr⟩) r;rw [ho];simp [aop,zh9,hc.bool s.fr]
theorem zwO {c x y:Operand} {e:TE} (hw:Want ops M Od o.guard) (ho:o.op=.pick c x y) (hd:o.dst=Ob t) (hc:Opd M c (.val zw Oc)) (hy:Opd M y e)
 (r:zm C T d ops rest ((t,e)::M) L Q):zm C T d ops (o::rest) M L Q:=by
 refine zau (by rw [ho]; rfl) hw hd (λz fr h s=>⟨fr.op y, ?_,hy.ok s.fr⟩) r;rw [ho];simp [aop,zh9,hc.bool s.fr]
def zq {A:Type} (xs:List A):Int:=xs.length
theorem zil {A:Type} {xs:List A} (h:xs.length<=maxLen):IntKind.i64.min<=zq xs/\zq xs<=IntKind.i64.max:=by
 unfold zq;simp [IntKind.min,IntKind.max,IntKind.bits,IntKind.signed,maxLen] at *
 omega
theorem zAF {A:Type} {R:Rep A} {z:Store} {h:za} {v:zd} {xs:List A} (hs:z.Sub h) (r:zg0 R z v xs):∀ b,b∈zS v->b<h.next:=by
 intro b hb;rcases r.2 with ⟨q,_⟩ | ⟨b',off,cap,q,_,hg⟩ | ⟨b',off,cap,cells,ro,q,hg,_⟩<;>subst q<;>simp [zS] at hb
 . subst hb; exact (hs _ _ hg).2
 . subst hb; exact (hs _ _ hg).2
theorem zrZ {A:Type} {R:Rep A} {z:Store} {v:zd} {xs:List A} (r:zg0 R z v xs):zon v=[]:=by
 rcases r.2 with ⟨q,_⟩ | ⟨b',off,cap,q,_,hg⟩ | ⟨b',off,cap,cells,ro,q,hg,_⟩<;>subst q<;>rfl
theorem zim {z:Store} {fr:zi} {h:za} (s:StZ C M L z fr h) {k:Nat} {v:zd} {ob:Obj} (hk:L[k]?=Ob (v,ob)) (hnc:zrT ob=Od):∀ b,b∈zS v->b<h.next:=by
 intro b hb;have:=(s.own.out _ (List.mem_of_getElem? hk) b (by rw [zlJ hnc]; cases v<;>simp_all [zS,zhm])).2.1;exact this
theorem zAG {A:Type} {R:Rep A} {z:Store} {h:za} {v:zd} {x:A} (hs:z.Sub h) (r:zqE R z v x):∀ b,b∈zS v->b<h.next:=by
 intro b hb;obtain ⟨b',off,cells,ro,q,hg,_⟩:=r;subst q;simp [zS] at hb;subst hb; exact (hs _ _ hg).2
theorem zr0 {A:Type} {R:Rep A} {z:Store} {v:zd} {x:A} (r:zqE R z v x):∀ b,b∈zS v->z b≠Oe:=by
 intro b hb;obtain ⟨b',off,cells,ro,q,hg,_⟩:=r;subst q;simp [zS] at hb;subst hb; rw [hg]; exact λq=>by cases q
theorem zfj {z:Store} {fr:zi} {h:za} (s:StZ C M L z fr h) {k:Nat} {v:zd} {ob:Obj} (hk:L[k]?=Ob (v,ob)) (hnc:zrT ob=Od):∀ b,b∈zS v->b<h.next/\z b=Oe:=by
 intro b hb;have:=s.own.out _ (List.mem_of_getElem? hk) b (by rw [zlJ hnc]; cases v<;>simp_all [zS,zhm]);exact ⟨this.2.1,this.1⟩
theorem zA4 {A:Type} {R:Rep A} {c:Call} {x:Operand} {xs:List A} {st et:TypeId} (hsl:Sl T st et R) (hw:Want ops M Od o.guard) (ho:o.op=.call c) (hd:o.dst=Ob t) (hc:c.callee=.builtin .len) (ha:c.args.toList=[x]) (ht:c.argTypes[0]?=Ob st)
 (hx:Opd M x (.val (zb R) xs)) (r:zm C T d ops rest ((t,.val (zh .i64) (zq xs))::M) L Q):zm C T d ops (o::rest) M L Q:=by
 have hf:∀ z fr h,StZ C M L z fr h->foot fr.op o=⟨[],Oc,[],Oc⟩:=λz fr h s=>by
  unfold foot; rw [ho]; simp only [hc];simp [ha,zrZ (zfX (hx.val s.fr))]
 refine zfD (.f λz fr h s=>by rw [hf z fr h s]; exact ⟨rfl,rfl,λb hb=>(nomatch hb),λ_=>rfl⟩) (λz fr h s=>by rw [hf z fr h s]; exact ⟨λb hb=>(nomatch hb),λb hb=>(nomatch hb)⟩) hw hd (λz fr h s=>?_) r;have hr:=zfX (hx.val s.fr);refine ⟨.int .i64 (zq xs), ?_,by simp only [TE.ok]; exact zbW (zil hr.1).1 (zil hr.1).2⟩;rw [ho];simp only [aop,zc1,hc,abuiltin,ha,List.map,ht,alen,hsl.und];rcases hr.2 with ⟨q,rfl⟩ | ⟨b,off,cap,q,rfl,_⟩ | ⟨b,off,cap,cells,ro,q,_⟩<;>rw [q]<;>simp [z6,zq]
theorem zzg {A:Type} {R:Rep A} {c:Call} {x:Operand} {xs:List A} {st et:TypeId} {v:zd} (k:Nat) (hsl:Sl T st et R) (hw:Want ops M Od o.guard) (ho:o.op=.call c) (hd:o.dst=Ob t) (hc:c.callee=.builtin .len) (ha:c.args.toList=[x]) (ht:c.argTypes[0]?=Ob st)
 (hx:Opd M x (.raw v)) (hk:L[k]?=Ob (v,.row R xs)) (r:zm C T d ops rest ((t,.val (zh .i64) (zq xs))::M) L Q):zm C T d ops (o::rest) M L Q:=by
 have hf:∀ z fr h,StZ C M L z fr h->foot fr.op o=⟨[],Oc,[],Oc⟩:=λz fr h s=>by
  have hr:=s.own.ok _ (List.mem_of_getElem? hk);simp only [Obj.ok] at hr;have e:zon v=[]:=by rcases hr.2 with ⟨q,_⟩ | ⟨_,_,_,_,q,_⟩<;>rw [q]<;>rfl
  unfold foot; rw [ho]; simp only [hc];simp [ha,hx.raw s.fr,e]
 refine zfD (.f λz fr h s=>by rw [hf z fr h s]; exact ⟨rfl,rfl,λb hb=>(nomatch hb),λ_=>rfl⟩) (λz fr h s=>by rw [hf z fr h s]; exact ⟨λb hb=>(nomatch hb),λb hb=>(nomatch hb)⟩) hw hd (λz fr h s=>?_) r;have hr:=s.own.ok _ (List.mem_of_getElem? hk);simp only [Obj.ok] at hr;refine ⟨.int .i64 (zq xs), ?_,by simp only [TE.ok]; exact zbW (zil hr.1).1 (zil hr.1).2⟩;rw [ho];simp only [aop,zc1,hc,abuiltin,ha,List.map,ht,alen,hsl.und,hx.raw s.fr];rcases hr.2 with ⟨q,rfl⟩ | ⟨b,off,cap,cells,q,_⟩<;>rw [q]<;>simp [z6,zq]
theorem zA5 {c:Call} {x y:Operand} {k:IntKind} {a b:Int} (hw:Want ops M Od o.guard) (ho:o.op=.call c) (hd:o.dst=Ob t) (hc:c.callee=.builtin .max) (ha:c.args.toList=[x,y])
 (hx:Opd M x (.val (zh k) a)) (hy:Opd M y (.val (zh k) b)) (r:zm C T d ops rest ((t,.val (zh k) (max a b))::M) L Q):zm C T d ops (o::rest) M L Q:=by
 refine zau (by rw [ho]; simp only [zdl,hc]) hw hd (λz fr h s=>⟨.int k (max a b), ?_, ?_⟩) r
 . rw [ho];simp only [aop,zc1,hc,abuiltin,ha,List.map,hx.int s.fr,hy.int s.fr,amax];simp only [List.foldlM,z6,Option.bind_eq_bind,Zb,Option.map,pure];congr 3;simp only [Int.max_def]; split<;>split<;>omega
 . simp only [TE.ok];have h1:=zec (hx.val s.fr);have h2:=zec (hy.val s.fr);exact zbW J J
theorem zA6 {c:Call} {x y:Operand} {k:IntKind} {a b:Int} (hw:Want ops M Od o.guard) (ho:o.op=.call c) (hd:o.dst=Ob t) (hc:c.callee=.builtin .min) (ha:c.args.toList=[x,y])
 (hx:Opd M x (.val (zh k) a)) (hy:Opd M y (.val (zh k) b)) (r:zm C T d ops rest ((t,.val (zh k) (min a b))::M) L Q):zm C T d ops (o::rest) M L Q:=by
 refine zau (by rw [ho]; simp only [zdl,hc]) hw hd (λz fr h s=>⟨.int k (min a b), ?_, ?_⟩) r
 . rw [ho];simp only [aop,zc1,hc,abuiltin,ha,List.map,hx.int s.fr,hy.int s.fr,amin];simp only [List.foldlM,z6,Option.bind_eq_bind,Zb,Option.map,pure];congr 3;simp only [Int.min_def]; split<;>split<;>omega
 . simp only [TE.ok];have h1:=zec (hx.val s.fr);have h2:=zec (hy.val s.fr);exact zbW J J
def idx {A:Type} (xs:List A) (i:Int):Option A:=if 0<=i then xs[i.toNat]? else Oe
theorem zdi {A:Type} {xs:List A} {i:Int} {x:A} (h:idx xs i=Ob x):0<=i/\i<xs.length/\i.toNat<xs.length/\xs[i.toNat]?=Ob x:=by
 unfold idx at h;split at h
 . have:=(List.getElem?_eq_some_iff.1 h).1;exact ⟨by assumption,by omega,this,h⟩
 . cases h
theorem zwP {A:Type} {R:Rep A} {z:Store} {v:zd} {xs:List A} {i:Int} {x:A} {st et:TypeId} {k:IntKind} (hsl:Sl T st et R) (r:zg0 R z v xs) (hi:idx xs i=Ob x):∃ a,zdy T st v (.int k i)=Ob a/\zqE R z a x:=by
 obtain ⟨h0,h1,h2,h3⟩:=zdi hi;rcases r.2 with ⟨rfl,rfl⟩ | ⟨b,off,cap,rfl,rfl,_⟩ | ⟨b,off,cap,cells,ro,rfl,hg,hl,_,hx⟩
 . simp at h2
 . simp at h2
 . refine ⟨.ptr b (off+i.toNat*R.sz), ?_,b,_,cells,ro,rfl,hg, ?_,hx _ _ h3⟩
   . simp only [zdy,hsl.und,hsl.sz];rw [if_pos (by exact ⟨h0,by omega,by trivial⟩)]
   . have:(i.toNat+1)*R.sz<=xs.length*R.sz:=Nat.mul_le_mul_right _ h2;rw [Nat.add_mul] at this;omega
theorem zA7 {A:Type} {R:Rep A} {x y:Operand} {xs:List A} {st et:TypeId} {k:IntKind} {i:Int} {a:A} (hsl:Sl T st et R) (hi:idx xs i=Ob a) (hw:Want ops M Od o.guard) (ho:o.op=.indexAddr st x y) (hd:o.dst=Ob t)
 (hx:Opd M x (.val (zb R) xs)) (hy:Opd M y (.val (zh k) i)) (r:zm C T d ops rest ((t,.val (zL R) a)::M) L Q):zm C T d ops (o::rest) M L Q:=by
 refine zau (by rw [ho]; rfl) hw hd (λz fr h s=>?_) r;obtain ⟨p,h1,h2⟩:=zwP (k:=k) hsl (zfX (hx.val s.fr)) hi;refine ⟨p, ?_,by simp only [TE.ok]; exact zgc h2⟩;rw [ho];simp only [aop,hy.int s.fr,h1,z6,Option.map]
theorem zvZ {A:Type} {R:Rep A} {x y:Operand} {xs:List A} {st et:TypeId} {kk:IntKind} {i:Int} {a:A} {v:zd} (k:Nat) (hsl:Sl T st et R) (hi:idx xs i=Ob a) (hw:Want ops M Od o.guard) (ho:o.op=.indexAddr st x y) (hd:o.dst=Ob t)
 (hx:Opd M x (.raw v)) (hk:L[k]?=Ob (v,.row R xs)) (hy:Opd M y (.val (zh kk) i)) (r:zm C T d ops rest ((t,.elt v i.toNat 0)::M) L Q):zm C T d ops (o::rest) M L Q:=by
 refine zau (by rw [ho]; rfl) hw hd (λz fr h s=>?_) r;obtain ⟨h0,h1,h2,h3⟩:=zdi hi;have hr:=s.own.ok _ (List.mem_of_getElem? hk);simp only [Obj.ok] at hr;rcases hr.2 with ⟨rfl,rfl⟩ | ⟨b,off,cap,cells,rfl,_⟩
 . simp at h2
 . refine ⟨.ptr b (off+i.toNat*R.sz), ?_,by simp only [TE.ok]; exact ⟨b,off,_,_,_,rfl,by simp⟩⟩;rw [ho];simp only [aop,hy.int s.fr,hx.raw s.fr,zdy,hsl.und,hsl.sz];rw [if_pos (by exact ⟨h0,by omega,by trivial⟩)];rfl
theorem zzh {A:Type} {R:Rep A} {x:Operand} {et:TypeId} {a:A} (hu:Und T et R) (hw:Want ops M Od o.guard) (ho:o.op=.load et x) (hd:o.dst=Ob t)
 (hx:Opd M x (.val (zL R) a)) (r:zm C T d ops rest ((t,.val R a)::M) L Q):zm C T d ops (o::rest) M L Q:=by
 have hf:∀ z fr h,StZ C M L z fr h->foot fr.op o=⟨zS (fr.op x),Oc,[],Oc⟩:=λz fr h s=>by unfold foot; rw [ho]
 refine zfD (.f λz fr h s=>by rw [hf z fr h s]; exact ⟨rfl,rfl,zr0 (zik (hx.val s.fr)),λq=>by rw [ho] at q; cases q⟩) (λz fr h s=>by rw [hf z fr h s]; exact ⟨zAG s.sub (zik (hx.val s.fr)),λb hb=>(nomatch hb)⟩) hw hd (λz fr h s=>?_) r;obtain ⟨b,off,cells,ro,h1,h2,h3,h4⟩:=zik (hx.val s.fr);obtain ⟨v,h5,h6⟩:=zfi hu.sz hu.agg h3 h4;refine ⟨v, ?_,by simp only [TE.ok]; exact h6⟩;rw [ho];simp only [aop,h1,aload,(s.sub _ _ h2).1,h5,z6,Option.map]
theorem zer {A:Type} {R:Rep A} {xs:List A} {off i:Nat} {x:A} {cells:List zd} (hl:off+xs.length*R.sz<=cells.length) (hx:xs[i]?=Ob x):off+i*R.sz+R.sz<=cells.length:=by
 have h2:=(List.getElem?_eq_some_iff.1 hx).1;have:(i+1)*R.sz<=xs.length*R.sz:=Nat.mul_le_mul_right _ h2;rw [Nat.add_mul] at this;omega
theorem ziX {A B:Type} {R:Rep A} {S:Rep B} {g:A->B} {w:A->B->A} {x:Operand} {et:TypeId} {a:A} {xs:List A} {v:zd} {i off:Nat} (k:Nat) (hls:Listed d ops rest) (hu:Und T et S) (hf:FOk R off S g w) (hi:xs[i]?=Ob a) (hw:Want ops M Od o.guard) (ho:o.op=.load et x) (hd:o.dst=Ob t)
 (hx:Opd M x (.elt v i off)) (hk:L[k]?=Ob (v,.row R xs)) (r:zm C T d ops rest ((t,.val S (g a))::M) L Q):zm C T d ops (o::rest) M L Q:=by
 have hft:∀ z fr h,StZ C M L z fr h->foot fr.op o=⟨zS (fr.op x),Oc,[],Oc⟩:=λz fr h s=>by unfold foot; rw [ho]
 refine zfD (.l hls (by rw [ho]; rfl) (by rw [ho]; rfl)) (λz fr h s=>by
  rw [hft z fr h s];refine ⟨λb hb=>?_,λb hb=>(nomatch hb)⟩;have hp:=hx.ok s.fr;simp only [TE.ok] at hp;obtain ⟨bb,oo,len,es,cap,q,hp⟩:=hp;rw [hp] at hb;refine zim s hk rfl b ?_;subst q;simpa [zS] using hb) hw hd (λz fr h s=>?_) r
 have hr:=s.own.ok _ (List.mem_of_getElem? hk);simp only [Obj.ok] at hr;have hp:=hx.ok s.fr;simp only [TE.ok] at hp;obtain ⟨b,oo,len,es,cap,rfl,hp⟩:=hp;rcases hr.2 with ⟨q,_⟩ | ⟨b',off',cap',cells,q,h2,h3,_,h5⟩
 . cases q
 . cases q;have h6:=zer h3 hi;have h7:=hf.get _ _ _ (h5 _ _ hi);have hfit:=hf.fit;rw [List.drop_take,List.take_take,List.drop_drop,Nat.min_eq_left J] at h7;obtain ⟨u,h8,h9⟩:=zfi hu.sz hu.agg J h7;refine ⟨u, ?_,by simp only [TE.ok]; exact h9⟩;rw [ho];simp only [aop,hp,aload,h2,h8,z6,Option.map]
theorem zoI {s:TypeId} {i:Nat} {ft:TypeId} {off n:Nat} (h:Fld T s i ft off n) (hn:0<n) (b q:Nat):zft T s (.ptr b q) i=Ob (.ptr b (q+off)):=by
 obtain ⟨⟨fs,f,h1,h2,h3,h4⟩,h5⟩:=h;subst h3 h4;simp only [zft,h1,h2,h5];rw [if_neg J]
theorem zCn {A B:Type} {R:Rep A} {S:Rep B} {g:A->B} {w:A->B->A} {x:Operand} {s ft:TypeId} {i off:Nat} {a:A} (hf:Fld T s i ft off S.sz) (hg:FOk R off S g w) (hp:0<S.sz) (hw:Want ops M Od o.guard) (ho:o.op=.fieldAddr s x i) (hd:o.dst=Ob t)
 (hx:Opd M x (.val (zL R) a)) (r:zm C T d ops rest ((t,.val (zL S) (g a))::M) L Q):zm C T d ops (o::rest) M L Q:=by
 refine zau (by rw [ho]; rfl) hw hd (λz fr h s=>?_) r;obtain ⟨b,q,cells,ro,h1,h2,h3,h4⟩:=zik (hx.val s.fr);have h7:=hg.get _ _ _ h4;have hfit:=hg.fit;rw [List.drop_take,List.take_take,List.drop_drop,Nat.min_eq_left J] at h7;refine ⟨.ptr b (q+off), ?_,by simp only [TE.ok]; exact zgc ⟨b,_,cells,ro,rfl,h2,by omega,h7⟩⟩;rw [ho];simp only [aop,h1,zoI hf hp,z6,Option.map]
theorem zwQ {x:Operand} {s ft:TypeId} {i off off0 n j:Nat} {v:zd} (hf:Fld T s i ft off n) (hp:0<n) (hw:Want ops M Od o.guard) (ho:o.op=.fieldAddr s x i) (hd:o.dst=Ob t)
 (hx:Opd M x (.elt v j off0)) (r:zm C T d ops rest ((t,.elt v j (off0+off))::M) L Q):zm C T d ops (o::rest) M L Q:=by
 refine zau (by rw [ho]; rfl) hw hd (λz fr h s=>?_) r;have hq:=hx.ok s.fr;simp only [TE.ok] at hq;obtain ⟨b,oo,len,es,cap,rfl,hq⟩:=hq;refine ⟨.ptr b (oo+j*es+off0+off), ?_,by simp only [TE.ok]; exact ⟨b,oo,len,es,cap,rfl,by simp [Nat.add_assoc]⟩⟩;rw [ho];simp only [aop,hq,zoI hf hp,z6,Option.map]
theorem zwR {x:Operand} {s ft:TypeId} {i off q n b:Nat} (hf:Fld T s i ft off n) (hp:0<n) (hw:Want ops M Od o.guard) (ho:o.op=.fieldAddr s x i) (hd:o.dst=Ob t)
 (hx:Opd M x (.raw (.ptr b q))) (r:zm C T d ops rest ((t,.raw (.ptr b (q+off)))::M) L Q):zm C T d ops (o::rest) M L Q:=by
 refine zau (by rw [ho]; rfl) hw hd (λz fr h s=>⟨.ptr b (q+off), ?_,by simp only [TE.ok]⟩) r;rw [ho];simp only [aop,hx.raw s.fr,zoI hf hp,z6,Option.map]
theorem zwS {A:Type} {R:Rep A} {x:Operand} {a:A} (hw:Want ops M Od o.guard) (ho:o.op=.nilCheck x) (hd:o.dst=Ob t)
 (hx:Opd M x (.val (zL R) a)) (r:zm C T d ops rest ((t,.val (zL R) a)::M) L Q):zm C T d ops (o::rest) M L Q:=by
 refine zau (by rw [ho]; rfl) hw hd (λz fr h s=>?_) r;obtain ⟨b,q,cells,ro,h1,h2⟩:=zik (hx.val s.fr);refine ⟨.ptr b q, ?_,by simp only [TE.ok]; exact zgc ⟨b,q,cells,ro,rfl,h2⟩⟩;rw [ho];simp only [aop,h1,zdz]
theorem zus {x:Operand} {b q:Nat} (hw:Want ops M Od o.guard) (ho:o.op=.nilCheck x) (hd:o.dst=Ob t)
 (hx:Opd M x (.raw (.ptr b q))) (r:zm C T d ops rest ((t,.raw (.ptr b q))::M) L Q):zm C T d ops (o::rest) M L Q:=
 zau (by rw [ho]; rfl) hw hd (λz fr h s=>⟨.ptr b q,by rw [ho]; simp only [aop,hx.raw s.fr,zdz],by simp only [TE.ok]⟩) r
theorem zwT {A B:Type} {R:Rep A} {S:Rep B} {g:A->B} {w:A->B->A} {x:Operand} {s ft:TypeId} {i off n:Nat} {a:A} (hf:Fld T s i ft off n) (hu:Und T ft S) (hR:R.agg=Od) (hg:FOk R off S g w) (hw:Want ops M Od o.guard) (ho:o.op=.field s x i) (hd:o.dst=Ob t)
    (hx:Opd M x (.val R a)) (r:zm C T d ops rest ((t,.val S (g a))::M) L Q):zm C T d ops (o::rest) M L Q:=by
  refine zau (by rw [ho]; rfl) hw hd (λz fr h s=>?_) r;have hv:=hx.val s.fr;obtain ⟨⟨fs,f,h1,h2,h3,h4⟩,h5⟩:=hf;subst h3 h4;have hc:=hv.agg;rw [hR] at hc;cases hq:fr.op x with
  | agg cs=>
    rw [hq] at hv;have hrel:=hv.rel;simp only [zd.cells] at hrel;obtain ⟨u,h8,h9⟩:=zfi (cells:=cs) hu.sz hu.agg (by rw [R.len _ _ _ hrel]; exact hg.fit) (hg.get _ _ _ hrel);refine ⟨u, ?_,by simp only [TE.ok]; exact h9⟩;rw [ho];simp only [aop,hq,afield,h1,h2,h8,z6,Option.map]
  | _=>rw [hq] at hc; cases hc
theorem zA8 {x:Operand} {es:List TE} {e:TE} {i:Nat} (hi:es[i]?=Ob e) (hw:Want ops M Od o.guard) (ho:o.op=.extract x i) (hd:o.dst=Ob t)
    (hx:Opd M x (.tup es)) (r:zm C T d ops rest ((t,e)::M) L Q):zm C T d ops (o::rest) M L Q:=by
  refine zau (by rw [ho]; rfl) hw hd (λz fr h s=>?_) r;have hq:=hx.ok s.fr;simp only [TE.ok] at hq;obtain ⟨vs,h1,h2⟩:=hq;have key:∀ (es:List TE) (vs:List zd) (i:Nat),zB z es vs->es[i]?=Ob e->∃ v,vs[i]?=Ob v/\e.ok z v:=by
    intro es;induction es with
    | nil=>intro vs i _ h; simp at h
    | cons a es ih=>
      intro vs i h hi;simp only [zB] at h;obtain ⟨v,vs',rfl,h1,h2⟩:=h;cases i with
      | zero=>simp at hi; subst hi; exact ⟨v,rfl,h1⟩
      | succ i=>simpa using ih vs' i h2 (by simpa using hi)
  obtain ⟨v,h3,h4⟩:=key es vs i h2 hi;refine ⟨v, ?_,h4⟩;rw [ho];simp only [aop,h1,zfy,h3,z6,Option.map]
theorem zmB {A:Type} {R:Rep A} {x:Operand} {lo hi:Option Operand} {xs:List A} {st et:TypeId} {i j:Int} {kl kh:IntKind} (hsl:Sl T st et R) (hij:0<=i/\i<=j/\j<=zq xs) (hw:Want ops M Od o.guard) (ho:o.op=.slice st x lo hi Oe) (hd:o.dst=Ob t)
    (hx:Opd M x (.val (zb R) xs)) (hlo:(lo=Oe/\i=0)\/∃ y,lo=Ob y/\Opd M y (.val (zh kl) i)) (hhi:(hi=Oe/\j=zq xs)\/∃ y,hi=Ob y/\Opd M y (.val (zh kh) j))
    (r:zm C T d ops rest ((t,.val (zb R) ((xs.take j.toNat).drop i.toNat))::M) L Q):zm C T d ops (o::rest) M L Q:=by
  refine zau (by rw [ho]; rfl) hw hd (λz fr h s=>?_) r;obtain ⟨hi0,hij,hj⟩:=hij;unfold zq at hj hhi;have hr:=zfX (hx.val s.fr);have blo:∀ top:Nat,j.toNat<=top->abound (lo.map fr.op) 0 j.toNat=Ob i.toNat:=by
    intro top _;rcases hlo with ⟨rfl,rfl⟩ | ⟨y,rfl,hy⟩
    · rfl
    · simp only [Option.map,abound,hy.int s.fr];rw [if_pos ⟨hi0,by omega⟩]
  have bhi:∀ n:Nat,n=xs.length->abound (hi.map fr.op) n n=Ob j.toNat:=by
    intro n hn;rcases hhi with ⟨rfl,rfl⟩ | ⟨y,rfl,hy⟩
    · subst hn; simp [abound]
    · simp only [Option.map,abound,hy.int s.fr];rw [if_pos ⟨by omega,by omega⟩]
  have hlen:((xs.take j.toNat).drop i.toNat).length=j.toNat-i.toNat:=by simp; omega
  rcases hr.2 with ⟨q,rfl⟩ | ⟨b,off,cap,q,rfl,hg⟩ | ⟨b,off,cap,cells,ro,q,hg,hl,hcap,hel⟩
  · have:j=0:=by simp at hj; omega
    subst this;have b1:=bhi 0 rfl;have b2:=blo 0 (Nat.le_refl _);rw [Int.toNat_zero] at b1 b2;refine ⟨.nsz, ?_,by simp only [TE.ok]; simpa using zbU ziW⟩;rw [ho];simp only [aop,aslice,hsl.und,hsl.sz,q,Option.map_none,b1,b2,z6,Option.map_some]
  · have:j=0:=by simp at hj; omega
    subst this;have:i=0:=J
    subst this;have b1:=bhi 0 rfl;have b2:=blo 0 (Nat.le_refl _);rw [Int.toNat_zero] at b1 b2;have fin:∀ cap',TV (zb R) z (.slice b (off+0*R.sz) (0-0) R.sz cap') ((([]:List A).take (0:Int).toNat).drop (0:Int).toNat):=λcap'=>by
      simpa using zbU (R:=R) (xs:=[]) ⟨by simp [maxLen],.inr (.inl ⟨b,_,_,rfl,rfl,hg⟩)⟩
    rw [ho];cases cap with
    | none=>
      refine ⟨_, ?_,by simp only [TE.ok]; exact fin Oe⟩;simp only [aop,aslice,hsl.und,hsl.sz,q,Option.map_none,b1,b2,z6,Option.map_some];rw [if_pos ⟨trivial,hsl.pos⟩];rfl
    | some c=>
      have b3:abound Oe c c=Ob c:=rfl;have b4:abound (hi.map fr.op) 0 c=Ob 0:=by
        rcases hhi with ⟨rfl,_⟩ | ⟨y,rfl,hy⟩
        · rfl
        · simp only [Option.map,abound,hy.int s.fr]; rw [if_pos ⟨by omega,by omega⟩]; rfl
      refine ⟨_, ?_,by simp only [TE.ok]; exact fin (Ob (c-0))⟩;simp only [aop,aslice,hsl.und,hsl.sz,q,Option.map_none,b3,b4,b2,z6,Option.isSome_none,Bool.false_and];rw [if_pos ⟨trivial,hsl.pos⟩];simp [b2]
  · have b1:=bhi xs.length rfl;have b2:=blo xs.length J;have hmul:i.toNat*R.sz+(j.toNat-i.toNat)*R.sz<=xs.length*R.sz:=by rw [← Nat.add_mul]; exact Nat.mul_le_mul_right _ J
    have row:∀ cap':Option Nat,(∀ c,cap'=Ob c->j.toNat-i.toNat<=c)->zg0 R z (.slice b (off+i.toNat*R.sz) (j.toNat-i.toNat) R.sz cap') ((xs.take j.toNat).drop i.toNat):=by
      intro cap' hc';refine ⟨by rw [hlen]; have:=hr.1; omega,.inr (.inr ⟨b,_,_,cells,ro,by rw [hlen],hg,by rw [hlen]; omega,by rw [hlen]; exact hc',λn y hy=>?_⟩)⟩;rw [List.getElem?_drop] at hy;have hy':xs[i.toNat+n]?=Ob y:=by
        rw [List.getElem?_take] at hy;split at hy
        · exact hy
        · cases hy
      have:=hel _ _ hy';rw [Nat.add_mul] at this;rw [Nat.add_assoc]; exact this
    rw [ho];cases cap with
    | none=>
      refine ⟨_, ?_,by simp only [TE.ok]; exact zbU (row Oe (λc q=>by cases q))⟩;simp only [aop,aslice,hsl.und,hsl.sz,q,Option.map_none,b1,b2,z6,Option.map_some];rw [if_pos ⟨trivial,hsl.pos⟩];rfl
    | some c=>
      have hc:=hcap c rfl;have b3:abound Oe c c=Ob c:=rfl;have b4:abound (hi.map fr.op) xs.length c=Ob j.toNat:=by
        rcases hhi with ⟨rfl,e⟩ | ⟨y,rfl,hy⟩
        · subst e; simp [abound]
        · simp only [Option.map,abound,hy.int s.fr]; rw [if_pos ⟨by omega,by omega⟩]
      refine ⟨_, ?_,by simp only [TE.ok]; exact zbU (row (Ob (c-i.toNat)) (λc' q=>by cases q; omega))⟩;simp only [aop,aslice,hsl.und,hsl.sz,q,Option.map_none,b3,b4,b2,z6,Option.isSome_none,Bool.false_and];rw [if_pos ⟨trivial,hsl.pos⟩];simp [b2]
end
def zjJ {A:Type} (n:Nat) (R:Rep A):Rep (List A):=
 ⟨n*R.sz,Od,λz cs xs=>xs.length=n/\cs.length=n*R.sz/\cs.all zd.one=Od/\∀ i x,xs[i]?=Ob x->R.rel z ((cs.drop (i*R.sz)).take R.sz) x,
  λ_ _ _ h=>h.2.1,λ_ _ _ _ e h=>⟨h.1,h.2.1,h.2.2.1,λi x hx=>R.mono _ _ _ _ e (h.2.2.2 i x hx)⟩,λh=>(by cases h),λ_ _ _ h=>h.2.2.1⟩
theorem ziY {A:Type} {R:Rep A} {z:Store} {xs:List A} {l:List zd} (hp:0<R.sz) (hl:l.length=xs.length*R.sz) (h:∀ i x,xs[i]?=Ob x->R.rel z ((l.drop (i*R.sz)).take R.sz) x):l.all zd.one=Od:=by
 refine List.all_eq_true.2 λc hc=>?_;obtain ⟨j,hj,rfl⟩:=List.getElem_of_mem hc;have hi:j/R.sz<xs.length:=by rw [Nat.div_lt_iff_lt_mul hp]; omega
 have h1:=R.ones _ _ _ (h _ _ (List.getElem?_eq_getElem hi));rw [List.all_eq_true] at h1;refine h1 _ (List.mem_of_getElem? (i:=j%R.sz) ?_);have hm:=Nat.mod_lt j hp;have e:=Nat.div_add_mod j R.sz;rw [Nat.mul_comm] at e;rw [List.getElem?_take,if_pos hm,List.getElem?_drop,e];simp
structure Ar1 (T:Tab) (at_:TypeId) (et:TypeId) (n:Nat) {A:Type} (R:Rep A):Prop where
 und:T.und at_=Ob (.array n et)
 sz:szT T et=Ob R.sz
 agg:zeb T et=Ob R.agg
 whole:szT T at_=Ob (n*R.sz)
 isagg:zeb T at_=Ob Od
 pos:0<R.sz
def zfE:Own->Nat->zd×Obj->Option Own
 | [],_,_=>Oe
 | _::l,0,e=>Ob (e::l)
 | p::l,n+1,e=>match zfE l n e with
  | some l'=>Ob (p::l')
  | none=>Oe
def zcR:Own->Nat->Option Own
 | [],_=>Oe
 | _::l,0=>Ob l
 | p::l,n+1=>match zcR l n with
  | some l'=>Ob (p::l')
  | none=>Oe
theorem zin:∀ {L L':Own} {k:Nat} {e:zd×Obj},zfE L k e=Ob L'->L'=L.set k e/\k<L.length
 | [],_,_,_,h=>by cases h
 | _::_,_,0,_,h=>by cases h; exact ⟨rfl,by simp⟩
 | p::l,_,n+1,e,h=>by
  simp only [zfE] at h;split at h
  . rename_i l' h';cases h;obtain ⟨h1,h2⟩:=zin h';exact ⟨by rw [h1]; rfl,by simpa using h2⟩
  . cases h
theorem zio:∀ {L L':Own} {k:Nat},zcR L k=Ob L'->L'=L.eraseIdx k
 | [],_,_,h=>by cases h
 | _::_,_,0,h=>by cases h; rfl
 | p::l,_,n+1,h=>by
  simp only [zcR] at h;split at h
  . rename_i l' h';cases h;rw [zio h']; rfl
  . cases h
theorem zko {α β:Type _} {f:α->List β} {l l':List α} (h:l.Sublist l'):(l.flatMap f).Sublist (l'.flatMap f):=by
 induction h with
 | slnil=>exact List.Sublist.refl _
 | cons a _ ih=>simp only [List.flatMap_cons]; exact ih.trans (List.sublist_append_right _ _)
 | cons_cons a _ ih=>simp only [List.flatMap_cons]; exact (List.Sublist.refl _).append ih
def _root_.Go.Ai.Store.add (z:Store) (b:Nat) (x:zfS):Store:=λk=>if k=b then Ob x else z k
theorem ziq {z:Store} {b:Nat} {x:zfS} (h:z b=Oe):z.le (z.add b x):=λk y hk=>by
 unfold Store.add;rw [if_neg (λe=>by subst e; rw [h] at hk; cases hk)]; exact hk
theorem zg3 {z:Store} {b:Nat} {x:zfS}:z.add b x b=Ob x:=by unfold Store.add; rw [if_pos rfl]
theorem add_ne {z:Store} {b k:Nat} {x:zfS} (h:k≠b):z.add b x k=z k:=by unfold Store.add; rw [if_neg h]
section
variable {C:Ctx} {T:Tab} {d:Option (List Nat)} {ops rest:List Oper} {M:Env} {L:Own} {Q:zi->za->Prop} {P:zaQ->zi->za->Prop} {o:Oper} {t:Nat} {z:Store} {fr:zi} {h:za}
theorem StZ.next_none (s:StZ C M L z fr h):z h.next=Oe:=by
 cases e:z h.next with
 | none=>rfl
 | some x=>exact absurd (s.sub _ _ e).2 (Nat.lt_irrefl _)
theorem StZ.upd (s:StZ C M L z fr h) {k:Nat} {v v':zd} {ob ob':Obj} {b:Nat} (hk:L[k]?=Ob (v,ob)) (hb:zeP (v,ob)=[b]) (hb':zeP (v',ob')=[b]) (x:zfS) (ho:ob'.ok z (h.set b x) v') {L':Own} (hL:zfE L k (v',ob')=Ob L'):StZ C M L' z fr (h.set b x):=by
 obtain ⟨rfl,hlt⟩:=zin hL;obtain ⟨o1,o2,o3⟩:=s.own.out _ (List.mem_of_getElem? hk) b (by rw [hb]; simp);have cases_:∀ p∈L.set k (v',ob'),p=(v',ob')\/∃ j,j≠k/\L[j]?=Ob p:=by
  intro p hp;obtain ⟨j,hj,e⟩:=List.getElem_of_mem hp;rw [List.getElem_set] at e;by_cases q:k=j
  ·rw [if_pos q] at e; exact .inl e.symm
  ·rw [if_neg q] at e; exact .inr ⟨j,Ne.symm q,by rw [← e]; exact List.getElem?_eq_getElem _⟩
 refine { zle:=s.zle,sub:=?_,old:=s.old,fr:=s.fr,own:=⟨?_, ?_, ?_⟩,chg:=⟨s.chg.next, ?_, ?_, ?_⟩ }
 ·intro c y hc;obtain ⟨h1,h2⟩:=s.sub c y hc;refine ⟨?_,h2⟩;rw [za.get_set,if_neg (λe=>by subst e; rw [o1] at hc; cases hc)]; exact h1
 ·intro p hp;rcases cases_ p hp with rfl | ⟨j,hj,hjp⟩
  ·exact ho
  ·refine Obj.ok_mono (.refl _) (λc hc=>?_) (s.own.ok p (List.mem_of_getElem? hjp));rw [za.get_set,if_neg];intro e;subst e;exact hj (zdC s.own.nodup hjp hk hc (by rw [hb]; simp))
 ·intro p hp;rcases cases_ p hp with rfl | ⟨j,hj,hjp⟩
  ·intro c hc; rw [hb',List.mem_singleton] at hc; subst hc; exact ⟨o1,o2,o3⟩
  ·exact s.own.out p (List.mem_of_getElem? hjp)
 ·have key:∀ (L:Own) (k:Nat),L[k]?=Ob (v,ob)->blks (L.set k (v',ob'))=blks L:=by
   intro L;induction L with
   | nil=>intro k h; simp at h
   | cons p L ih=>
    intro k h;cases k with
    | zero=>
     simp at h; subst h;rw [List.set_cons_zero,zR,zR,hb,hb']
    | succ k=>
     have:=ih k (by simpa using h);rw [List.set_cons_succ,zR,zR,this]
  rw [key L k hk]; exact s.own.nodup
 ·intro c hc hB;rw [za.get_set,if_neg]
  ·exact s.chg.same c hc hB
  ·intro e; subst e;rcases o3 with q | q
   ·omega
   ·exact hB q
 ·intro m m1 m2 m3;have:=s.chg.wm m m1 m2 m3;have hb':m<=b:=by
   rcases o3 with q | q
   ·exact Nat.le_trans m2 q
   ·exact m3 _ q
  show m<=min h.wm b;omega
 ·show min h.wm b<=h.next;have:=s.chg.ok; omega
theorem StZ.drop (s:StZ C M L z fr h) {k:Nat} {L':Own} (hL:zcR L k=Ob L'):StZ C M L' z fr h:=by
 have:=zio hL;subst this;have hs:(L.eraseIdx k).Sublist L:=List.eraseIdx_sublist L k;refine { s with own:=⟨λp hp=>s.own.ok p (hs.subset hp),λp hp=>s.own.out p (hs.subset hp), ?_⟩ };exact List.Nodup.sublist (zko hs) s.own.nodup
theorem zce:∀ {L L':Own} {k:Nat} {e:zd×Obj},L[k]?=Ob e->zcR L k=Ob L'->(e::L').Perm L
 | [],_,_,_,h,_=>by simp at h
 | p::l,_,0,e,h,h'=>by simp at h; cases h'; subst h; exact .refl _
 | p::l,_,n+1,e,h,h'=>by
  simp only [zcR] at h';split at h'
  . rename_i l' h2;cases h';exact (List.Perm.swap p e l').trans ((zce (by simpa using h) h2).cons p)
  . cases h'
theorem StZ.front (s:StZ C M L z fr h) {k:Nat} {e:zd×Obj} {L':Own} (hk:L[k]?=Ob e) (hL:zcR L k=Ob L'):StZ C M (e::L') z fr h:=by
 have hp:=zce hk hL;refine { s with own:=⟨λp hp'=>s.own.ok p (hp.mem_iff.1 hp'),λp hp'=>s.own.out p (hp.mem_iff.1 hp'), ?_⟩ };exact (List.Perm.flatMap_right _ hp).nodup_iff.2 s.own.nodup
theorem StZ.wild (s:StZ C M L z fr h) {b:Nat} (o1:z b=Oe) (o2:b<h.next) (o3:C.h0.next<=b\/b∈C.B0) (hn:b∉blks L) (x:zfS):StZ C M L z fr (h.set b x):=by
 refine { zle:=s.zle,sub:=?_,old:=s.old,fr:=s.fr,own:=⟨?_,s.own.out,s.own.nodup⟩,chg:=⟨s.chg.next, ?_, ?_, ?_⟩ }
 . intro c y hc;obtain ⟨h1,h2⟩:=s.sub c y hc;exact ⟨by rw [za.get_set,if_neg (λe=>by subst e; rw [o1] at hc; cases hc)]; exact h1,h2⟩
 . intro p hp;refine Obj.ok_mono (.refl _) (λc hc=>?_) (s.own.ok p hp);rw [za.get_set,if_neg];intro e; subst e;exact hn (zbm.2 ⟨p,hp,hc⟩)
 . intro c hc hB;rw [za.get_set,if_neg]
   . exact s.chg.same c hc hB
   . intro e; subst e;rcases o3 with q | q
     . omega
     . exact hB q
 . intro m m1 m2 m3;have:=s.chg.wm m m1 m2 m3;have hb':m<=b:=by
    rcases o3 with q | q
    . exact Nat.le_trans m2 q
    . exact m3 _ q
   show m<=min h.wm b;omega
 . show min h.wm b<=h.next;have:=s.chg.ok; omega
theorem StZ.push (s:StZ C M L z fr h) (x:zfS):StZ C M L (z.add h.next x) fr (h.push x):=by
 have hle:z.le (z.add h.next x):=ziq s.next_none;refine { zle:=s.zle.trans hle,sub:=?_,old:=?_,fr:=s.fr.mono hle,own:=⟨?_, ?_,s.own.nodup⟩,chg:=⟨?_, ?_,s.chg.wm, ?_⟩ }
 . intro b y hb;by_cases e:b=h.next
   . subst e;rw [zg3] at hb; cases hb;exact ⟨by rw [za.get_push,if_pos rfl],by rw [za.next_push]; omega⟩
   . rw [add_ne e] at hb;obtain ⟨h1,h2⟩:=s.sub b y hb;exact ⟨by rw [za.get_push,if_neg e]; exact h1,by rw [za.next_push]; omega⟩
 . intro b hb hB;rw [add_ne (by have:=s.chg.next; omega)]; exact s.old b hb hB
 . intro p hp;refine Obj.ok_mono hle (λb hb=>?_) (s.own.ok p hp);rw [za.get_push,if_neg (by have:=(s.own.out p hp b hb).2.1; omega)]
 . intro p hp b hb;obtain ⟨o1,o2,o3⟩:=s.own.out p hp b hb;exact ⟨by rw [add_ne J]; exact o1,by rw [za.next_push]; omega,o3⟩
 . rw [za.next_push]; have:=s.chg.next; omega
 . intro b hb hB;rw [za.get_push,if_neg (by have:=s.chg.next; omega)]; exact s.chg.same b hb hB
 . show h.wm<=h.next+1;have:=s.chg.ok; omega
theorem StZ.pushOwn (s:StZ C M L z fr h) (x:zfS) {v:zd} {ob:Obj} (hv:zeP (v,ob)=[h.next]) (ho:ob.ok z (h.push x) v):StZ C M ((v,ob)::L) z fr (h.push x):=by
 refine { zle:=s.zle,sub:=?_,old:=s.old,fr:=s.fr,own:=⟨?_, ?_, ?_⟩,chg:=⟨?_, ?_,s.chg.wm, ?_⟩ }
 . intro b y hb;obtain ⟨h1,h2⟩:=s.sub b y hb;exact ⟨by rw [za.get_push,if_neg J]; exact h1,by rw [za.next_push]; omega⟩
 . intro p hp;rcases List.mem_cons.1 hp with rfl | hp
   . exact ho
   . refine Obj.ok_mono (.refl _) (λb hb=>?_) (s.own.ok p hp);rw [za.get_push,if_neg (by have:=(s.own.out p hp b hb).2.1; omega)]
 . intro p hp b hb;rcases List.mem_cons.1 hp with rfl | hp
   . rw [hv,List.mem_singleton] at hb; subst hb;exact ⟨s.next_none,by rw [za.next_push]; omega,.inl s.chg.next⟩
   . obtain ⟨o1,o2,o3⟩:=s.own.out p hp b hb;exact ⟨o1,by rw [za.next_push]; omega,o3⟩
 . rw [zR,hv];refine List.nodup_cons.2 ⟨λhm=>?_,s.own.nodup⟩;obtain ⟨p,hp,hb⟩:=zbm.1 hm;have:=(s.own.out p hp _ hb).2.1;omega
 . rw [za.next_push]; have:=s.chg.next; omega
 . intro b hb hB;rw [za.get_push,if_neg (by have:=s.chg.next; omega)]; exact s.chg.same b hb hB
 . show h.wm<=h.next+1;have:=s.chg.ok; omega
theorem StZ.nilrow {A:Type} (R:Rep A) (s:StZ C M L z fr h):StZ C M ((.nsz,.row R [])::L) z fr h:=by
 refine { s with own:=⟨λp hp=>?_,λp hp b hb=>?_, ?_⟩ }
 . rcases List.mem_cons.1 hp with rfl | hp
   . exact ⟨by simp [maxLen],.inl ⟨rfl,rfl⟩⟩
   . exact s.own.ok p hp
 . rcases List.mem_cons.1 hp with rfl | hp
   . simp [zeP,zhm] at hb
   . exact s.own.out p hp b hb
 . rw [zR]; exact s.own.nodup
def zf2 (ts:List Nat) (e:TE) (M:Env):Env:=match ts with
 | []=>M
 | t::ts=>(t,e)::zf2 ts e M
def zir (M:Env) (v:zd):List Nat->Prop
 | []=>True
 | t::ts=>look M t=Ob (.raw v)/\zir M v ts
theorem zeI {e:TE} {v:zd} (he:e.ok z v):∀ {ts:List Nat},zir M v ts->ziJ z M fr->ziJ z (zf2 ts e M) fr
 | [],_,hf=>hf
 | t::ts,⟨h1,h2⟩,hf=>by
  have ih:=zeI he h2 hf;intro t' e' hl;simp only [zf2,look] at hl;cases hb:Nat.beq t t' with
  | true=>
   rw [hb] at hl;have:=Nat.eq_of_beq_eq_true hb;subst this;cases hl;have:=hf _ _ h1;simp only [TE.ok] at this;rw [this]; exact he
  | false=>rw [hb] at hl; exact ih t' e' hl
theorem StZ.freeze {A:Type} {R:Rep A} {xs:List A} {v:zd} (s:StZ C M L z fr h) {k:Nat} {L':Own} (hk:L[k]?=Ob (v,.row R xs)) (hL:zcR L k=Ob L'):∃ z',z.le z'/\StZ C M L' z' fr h/\zg0 R z' v xs:=by
 have ho:=s.own.ok _ (List.mem_of_getElem? hk);simp only [Obj.ok] at ho;rcases ho.2 with ⟨q,rfl⟩ | ⟨b,off,cap,cells,rfl,h2,h3,h4,h5⟩
 . exact ⟨z,.refl _,s.drop hL,by rw [q]; exact ziW⟩
 . obtain ⟨o1,o2,o3⟩:=s.own.out _ (List.mem_of_getElem? hk) b (by simp [zeP,zhm]);have hle:z.le (z.add b (.arr cells Oc)):=ziq o1;have s':=s.drop hL;have hne:∀ p∈L',∀ c,c∈zeP p->c≠b:=by
    intro p hp c hc e;subst e;rw [zio hL] at hp;obtain ⟨j,hj,hjp⟩:=List.getElem_of_mem hp;have hj':(L.eraseIdx k)[j]?=Ob p:=by rw [← hjp]; exact List.getElem?_eq_getElem _
    rw [List.getElem?_eraseIdx] at hj';split at hj'
    . have:=zdC s.own.nodup hj' hk hc (by simp [zeP,zhm]); omega
    . have:=zdC s.own.nodup hj' hk hc (by simp [zeP,zhm]); omega
   refine ⟨z.add b (.arr cells Oc),hle,{ zle:=s.zle.trans hle,sub:=?_,old:=?_,fr:=s.fr.mono hle,own:=⟨λp hp=>Obj.ok_mono hle (λ_ _=>rfl) (s'.own.ok p hp),λp hp c hc=>?_,s'.own.nodup⟩,chg:=s.chg }, ?_⟩
   . intro c y hc;by_cases e:c=b
     . subst e; rw [zg3] at hc; cases hc; exact ⟨h2,o2⟩
     . rw [add_ne e] at hc; exact s.sub c y hc
   . intro c hc hB;rw [add_ne]
     . exact s.old c hc hB
     . intro e; subst e;rcases o3 with q | q
       . omega
       . exact hB q
   . obtain ⟨q1,q2,q3⟩:=s'.own.out p hp c hc;exact ⟨by rw [add_ne (hne p hp c hc)]; exact q1,q2,q3⟩
   . exact ⟨ho.1,.inr (.inr ⟨b,off,cap,cells,Oc,rfl,zg3,h3,λc hc=>(h4 c hc).1,λi x hx=>R.mono _ _ _ _ hle (h5 i x hx)⟩)⟩
end
end Go.Ai.Sx