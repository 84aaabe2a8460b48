/- Rows whose elements are rows that are owned too. -/
import Derived.Test.YtnngmijajnldlaaGreatX4
import Derived.Test.YtnngmijajnldlaaGreatX3
import Derived.HandedShaped
import Derived.Carry
import Derived.OpenShut
import Derived.JoinedOf
import Derived.ChangeCalls
import Derived.Test.YtnngmijajnldlaaGreatX0
set_option linter.unusedSimpArgs false
set_option linter.unusedVariables false
set_option linter.unusedSectionVars false
open Option renaming some→Ob,none→Oe
open Bool renaming false→Oc,true→Od
namespace Go.Ai.Sx
def zhH:Rep zd:=⟨1,Oc,λ_ cs x=>cs=[x]/\x.one=Od/\x.isAgg=Oc,λ_ _ _ h=>by rw [h.1]; rfl,λ_ _ _ _ _ h=>h,λ_=>rfl,λ_ _ _ h=>by rw [h.1]; simp [h.2.1]⟩
theorem zr8 {z:Store} {v x:zd} (q:TV zhH z v x):v=x:=by
 have h1:=q.agg;have h2:=q.rel;cases v<;>simp_all [zd.isAgg,zd.cells,zhH]
theorem zqL {A:Type} {R:Rep A} {xs:List A} {z z0:Store} {h:za} {v:zd} (q:(Obj.row R xs).ok z0 h v):TV zhH z v v:=by
 simp only [Obj.ok] at q;rcases q.2 with ⟨rfl,_⟩ | ⟨b,off,cap,cells,rfl,_⟩<;>exact ⟨⟨rfl,rfl,rfl⟩,rfl⟩
def pack {A:Type} (R:Rep A) (hs:List zd) (xss:List (List A)):Obj:=
 .cb (hs.flatMap λv=>(zhm v).toList) (λz h=>hs.length=xss.length/\∀ (i:Nat) (v:zd) (xs:List A),hs[i]?=Ob v->xss[i]?=Ob xs->(Obj.row R xs).ok z h v)
theorem zit {A:Type} {R:Rep A} {hs:List zd} {xss:List (List A)} {u:zd}:zeP (u,pack R hs xss)=hs.flatMap λv=>(zhm v).toList:=rfl
theorem zoN {A:Type} {R:Rep A} {hs:List zd} {xss:List (List A)} {u:zd} {z:Store} {h:za} (h1:hs.length=xss.length) (h2:∀ (i:Nat) (v:zd) (xs:List A),hs[i]?=Ob v->xss[i]?=Ob xs->(Obj.row R xs).ok z h v):(pack R hs xss).ok z h u:=by
 refine ⟨⟨h1,h2⟩,λz z' h h' hz hb q=>⟨q.1,λi v xs hv hx=>?_⟩⟩;refine Obj.ok_mono (o:=.row R xs) hz (λb hb'=>?_) (q.2 i v xs hv hx);exact hb b (List.mem_flatMap.2 ⟨v,List.mem_of_getElem? hv,hb'⟩)
theorem zjO {A:Type} {R:Rep A} {hs:List zd} {xss:List (List A)} {u:zd} {z:Store} {h:za} (q:(pack R hs xss).ok z h u):hs.length=xss.length/\∀ (i:Nat) (v:zd) (xs:List A),hs[i]?=Ob v->xss[i]?=Ob xs->(Obj.row R xs).ok z h v:=by
 simp only [pack,Obj.ok] at q;exact q.1
section
variable {C:Ctx} {T:Tab} {d:Option (List Nat)} {ops rest:List Oper} {M:Env} {L:Own} {Q:zi->za->Prop} {P:zaQ->zi->za->Prop} {o:Oper} {t:Nat} {z:Store} {fr:zi} {h:za}
theorem zzx {F:Prop} (q:∀ z fr h,StZ C M L z fr h->F) (r:F->zm C T d ops rest M L Q):zm C T d ops rest M L Q:=by
 cases d with
 | none=>exact λfr h ⟨z,s⟩=>r (q z fr h s) fr h ⟨z,s⟩
 | some ol=>exact λz fr h i done s hr hok hd=>r (q z fr h s) z fr h i done s hr hok hd
theorem StZ.repack (s:StZ C M L z fr h) {L':Own} (hp:(blks L').Perm (blks L)) (hk:∀ p∈L',p.2.ok z h p.1):StZ C M L' z fr h:=by
 refine { s with own:=⟨hk,λp hp' b hb=>?_,hp.nodup_iff.2 s.own.nodup⟩ };have h1:=hp.mem_iff.1 (zbm.2 ⟨p,hp',hb⟩);obtain ⟨q,hq,hb'⟩:=zbm.1 h1;exact s.own.out q hq b hb'
theorem zlO {α:Type}:∀ {l:List α} {i:Nat} {a:α},l[i]?=Ob a->l.Perm (a::l.eraseIdx i)
 | [],_,_,h=>by simp at h
 | x::l,0,a,h=>by simp at h; subst h; exact .refl _
 | x::l,i+1,a,h=>by
  simp only [List.getElem?_cons_succ] at h;exact ((zlO h).cons x).trans (.swap a x _)
theorem zpD {α:Type}:∀ {l:List α} {i:Nat} {a b:α},l[i]?=Ob a->(l.set i b).Perm (b::l.eraseIdx i)
 | [],_,_,_,h=>by simp at h
 | x::l,0,a,b,h=>.refl _
 | x::l,i+1,a,b,h=>by
  simp only [List.getElem?_cons_succ] at h;exact ((zpD h).cons x).trans (.swap b x _)
theorem zgh {L L':Own} (hp:L.Perm L'):(blks L).Perm (blks L'):=List.Perm.flatMap_right _ hp
theorem zoO {A:Type} {R:Rep A} {u v:zd} {hs:List zd} {xss:List (List A)} {xs:List A} {i:Nat} (k:Nat) {L':Own} (hk:L[k]?=Ob (u,pack R hs xss)) (hL:zcR L k=Ob L') (hv:hs[i]?=Ob v) (hx:xss[i]?=Ob xs) :
 ∀ z fr h,StZ C M L z fr h->∃ z',z.le z'/\StZ C M ((v,.row R xs)::(u,pack R (hs.eraseIdx i) (xss.eraseIdx i))::L') z' fr h:=λz fr h s=>by
 have hp:=zce hk hL;have hq:=zjO (s.own.ok _ (List.mem_of_getElem? hk));have hi:=(List.getElem?_eq_some_iff.1 hv).1;refine ⟨z,.refl _,s.repack ?_ (λp hp'=>?_)⟩
 . refine List.Perm.trans ?_ (zgh hp);rw [zR,zR,zR,zit,zit,← List.append_assoc];refine List.Perm.append_right _ ?_;have:=List.Perm.flatMap_right (λv=>(zhm v).toList) (zlO hv);rw [List.flatMap_cons] at this;exact this.symm
 . rcases List.mem_cons.1 hp' with rfl | hp'
   . exact hq.2 i v xs hv hx
   . rcases List.mem_cons.1 hp' with rfl | hp'
     . refine zoN (by rw [List.length_eraseIdx,List.length_eraseIdx,hq.1]) (λj w ys hw hy=>?_);rw [List.getElem?_eraseIdx] at hw hy;split at hw
       . rename_i q; rw [if_pos q] at hy; exact hq.2 j w ys hw hy
       . rename_i q; rw [if_neg q] at hy; exact hq.2 _ w ys hw hy
     . exact s.own.ok p (hp.mem_iff.1 (List.mem_cons_of_mem _ hp'))
theorem zv0 {A:Type} {R:Rep A} {u v w:zd} {hs:List zd} {xss:List (List A)} {xs ws:List A} {i:Nat} (k m:Nat) {L' L'':Own} (hk:L[k]?=Ob (v,.row R xs)) (hL:zcR L k=Ob L') (hm:L'[m]?=Ob (u,pack R (hs.eraseIdx i) (xss.eraseIdx i))) (hL':zcR L' m=Ob L'') (hv:hs[i]?=Ob w) (hx:xss[i]?=Ob ws) :
 ∀ z fr h,StZ C M L z fr h->∃ z',z.le z'/\StZ C M ((u,pack R (hs.set i v) (xss.set i xs))::L'') z' fr h:=λz fr h s=>by
 have hp:=zce hk hL;have hp':=zce hm hL';have hmem:(u,pack R (hs.eraseIdx i) (xss.eraseIdx i))∈L:=hp.mem_iff.1 (List.mem_cons_of_mem _ (List.mem_of_getElem? hm));have hq:=zjO (s.own.ok _ hmem);have hi:=(List.getElem?_eq_some_iff.1 hv).1;have hi':=(List.getElem?_eq_some_iff.1 hx).1;have hlen:hs.length=xss.length:=by
  have:=hq.1;rw [List.length_eraseIdx,List.length_eraseIdx,if_pos hi,if_pos hi'] at this;omega
 refine ⟨z,.refl _,s.repack ?_ (λp hp''=>?_)⟩
 . refine List.Perm.trans ?_ (zgh hp);rw [zR,zR];refine List.Perm.trans ?_ (List.Perm.append_left _ (zgh hp'));rw [zR,zit,zit,← List.append_assoc];refine List.Perm.append_right _ ?_;have:=List.Perm.flatMap_right (λv=>(zhm v).toList) (zpD (b:=v) hv);rw [List.flatMap_cons] at this;exact this
 . rcases List.mem_cons.1 hp'' with rfl | hp''
   . refine zoN (by rw [List.length_set,List.length_set,hlen]) (λj w' ys hw hy=>?_);rw [List.getElem?_set] at hw hy;by_cases q:i=j
     . rw [if_pos q,if_pos J] at hw hy;cases hw; cases hy;exact s.own.ok _ (List.mem_of_getElem? hk)
     . rw [if_neg q] at hw hy;by_cases q2:j<i
       . exact hq.2 j w' ys (by rw [List.getElem?_eraseIdx,if_pos q2]; exact hw) (by rw [List.getElem?_eraseIdx,if_pos q2]; exact hy)
       . obtain ⟨j',rfl⟩:∃ j',j=j'+1:=⟨j-1,by omega⟩;exact hq.2 j' w' ys (by rw [List.getElem?_eraseIdx,if_neg J]; exact hw) (by rw [List.getElem?_eraseIdx,if_neg J]; exact hy)
   . exact s.own.ok p (hp.mem_iff.1 (List.mem_cons_of_mem _ (hp'.mem_iff.1 (List.mem_cons_of_mem _ hp''))))
theorem set_same.{u} {α:Type u} {l:List α} {i:Nat} {a:α} (h:l[i]?=Ob a):l.set i a=l:=by
 apply List.ext_getElem?;intro j;rw [List.getElem?_set];split
 . rename_i q;subst q;rw [if_pos (List.getElem?_eq_some_iff.1 h).1]; exact h.symm
 . rfl
theorem zi1 {e:TE} {n:Nat} (hf:ziJ z M fr) (h:e.ok z (fr.ev n)):ziJ z ((n,e)::M) fr:=by
 intro t e' q;simp only [look] at q;cases hb:Nat.beq n t with
 | true=>
  rw [hb] at q;cases q;have:=Nat.eq_of_beq_eq_true hb;subst this;exact h
 | false=>rw [hb] at q; exact hf t e' q
theorem zuC {x:zd} {n:Nat} (hl:look M n=Ob (.val zhH x)):∀ z fr h,StZ C M L z fr h->∃ z',z.le z'/\StZ C ((n,.raw x)::M) L z' fr h:=λz fr h s=>by
 have h1:=s.fr _ _ hl;simp only [TE.ok] at h1;exact ⟨z,.refl _,{ s with fr:=zi1 s.fr (by simp only [TE.ok]; exact zr8 h1) }⟩
theorem zpE {A:Type} {R:Rep A} {xs:List A} {v:zd} {n:Nat} (k:Nat) (hk:L[k]?=Ob (v,.row R xs)) (hl:look M n=Ob (.raw v)):∀ z fr h,StZ C M L z fr h->∃ z',z.le z'/\StZ C ((n,.val zhH v)::M) L z' fr h:=λz fr h s=>by
 have h1:=s.fr _ _ hl;simp only [TE.ok] at h1;exact ⟨z,.refl _,{ s with fr:=zi1 s.fr (by simp only [TE.ok]; rw [h1]; exact zqL (s.own.ok _ (List.mem_of_getElem? hk))) }⟩
theorem zzy {A:Type} {hs:List zd} {xss:List (List A)} {i:Int} {a:List A} (hl:hs.length=xss.length) (hi:idx xss i=Ob a):∃ w,idx hs i=Ob w/\hs[i.toNat]?=Ob w:=by
 obtain ⟨h0,h1,h2,h3⟩:=zdi hi;refine ⟨hs[i.toNat]'J, ?_,List.getElem?_eq_getElem _⟩;unfold idx;rw [if_pos h0];exact List.getElem?_eq_getElem _
theorem zv1 {A:Type} {R:Rep A} {x y:Operand} {hs:List zd} {xss:List (List A)} {st et:TypeId} {kk:IntKind} {i:Int} {a:List A} {v u:zd} (k m:Nat) (hsl:Sl T st et zhH) (hi:idx xss i=Ob a) (hw:Want ops M Od o.guard) (ho:o.op=.indexAddr st x y) (hd:o.dst=Ob t)
 (hx:Opd M x (.raw v)) (hk:L[k]?=Ob (v,.row zhH hs)) (hm:L[m]?=Ob (u,pack R hs xss)) (hy:Opd M y (.val (zh kk) i)) (r:∀ w,hs[i.toNat]?=Ob w->zm C T d ops rest ((t,.elt v i.toNat 0)::M) L Q):zm C T d ops (o::rest) M L Q:=
 zzx (F:=hs.length=xss.length) (λ_ _ _ s=>(zjO (s.own.ok _ (List.mem_of_getElem? hm))).1) λhl=>by
  obtain ⟨w,h1,h2⟩:=zzy hl hi;exact zvZ k hsl h1 hw ho hd hx hk hy (r w h2)
def untup:zd->List zd
 | .tuple l=>l
 | _=>[]
end
def zzz (T:Tab) (f:zd) (as:List TE) (L0:Own) (rs:List RE) (L1:List zd->Own):Prop:=
 ∀ z h vs,z.Sub h->h.wm<=h.next->zB z as vs->zgT ⟨z,h,blks L0⟩ z h L0->zjy T f vs h λr h'=>∃ us z' γ,r=.ret (packed us)/\us.length=rs.length/\Chg ⟨z,h,blks L0⟩ h'/\z.le z'/\z'.Sub h'/\(∀ b,b<h.next->b∉blks L0->z' b=z b)/\zB z' (tes rs us) us/\zgT ⟨z,h,blks L0⟩ z' h' (owns rs us++L1 γ)
structure zr9 (T:Tab) (yv:zd) {X σ τ:Type} (ins:X->List TE) (step:σ->X->Option (σ⊕τ)) (K:σ⊕τ->List zd->Obj):Prop where
 call:∀ s γ x r,step s x=Ob r->zzz T yv (ins x) [(yv,K (.inl s) γ)] [.val zw r.isLeft] λγ'=>[(yv,K r γ')]
 one:yv.one=Od
 agg:yv.isAgg=Oc
def zBm (ops:List Oper) (ol:List Nat) (i:Nat):Bool:=match zct ops i with
 | b=>(List.range i).all λp=>b.contains p||(match ops[p]? with | some q=>ziS q.op&&!ol.contains p | none=>Oc)
def ziu (d:Option (List Nat)) (ops rest:List Oper):Prop:=∀ ol,d=Ob ol->zBm ops ol (ops.length-(rest.length+1))=Od/\rest.all (λo=>zdl o.op)=Od
section
variable {C:Ctx} {T:Tab} {d:Option (List Nat)} {ops rest:List Oper} {M:Env} {L:Own} {Q:zi->za->Prop} {P:zaQ->zi->za->Prop} {o:Oper} {t:Nat} {z:Store} {fr:zi} {h:za}
theorem zqM {a:Foot}:a.apart ⟨[],Oc,[],Oc⟩=Od:=by
 unfold Foot.apart disj;simp
theorem znH {i:Nat} {done:List (Nat×Foot)}:zcC ops i ⟨[],Oc,[],Oc⟩ done=Od:=by
 unfold zcC;rw [if_pos (List.all_eq_true.2 λp _=>zqM)]
theorem zoP {a:Foot}:(⟨[],Oc,[],Oc⟩:Foot).apart a=Od:=by
 unfold Foot.apart disj;simp
theorem zmE {ol:List Nat} {i:Nat} {f:Foot} {done:List (Nat×Foot)} (hc:zBm ops ol i=Od) (hd:zlL ops ol z i fr h done):zcC ops i f done=Od:=by
 unfold zcC;split
 . rfl
 . refine List.all_eq_true.2 λp hp=>?_;obtain ⟨h1,h2,h3,h4,h5,h6⟩:=hd.1 p hp;unfold zBm at hc;have:=List.all_eq_true.1 hc p.1 (List.mem_range.2 h1);rw [Bool.or_eq_true] at this;rcases this with q | q
   . rw [q,Bool.or_true]
   . split at q
     . rename_i o ho;rw [Bool.and_eq_true] at q;have hq:zeG ol p.1 o.op=Od:=by
        unfold zeG;have:=q.1;unfold ziS at this;rw [Bool.or_eq_true] at this;rcases this with k | k
        . rw [k]; rfl
        . rw [k,q.2]; simp
       obtain ⟨k1,k2,_,k4⟩:=h6 o ho hq;have e:p.2=⟨[],Oc,[],Oc⟩:=by
        cases hp2:p.2 with
        | mk rd rall wr wall=>
         rw [hp2] at k1 k2 k4 h2;simp only at k1 k2 k4 h2;rw [k1,k2,h2,k4 q.1]
       rw [e,zoP,Bool.true_or]
     . cases q
theorem zhU:∀ {rest:List Oper} {i:Nat} {done:List (Nat×Foot)} {fr:zi} {h:za},rest.all (λo=>zdl o.op)=Od->h.wm<=h.next->wX T ops rest fr h Q->Draw T ops rest i done fr h Q
 | [],_,_,_,_,_,_,w=>zps w
 | o::rest,i,done,fr,h,hno,hwm,w=>by
  rw [List.all_cons,Bool.and_eq_true] at hno;simp only [wX] at w;split at w
  . rename_i hw;split at w
    . rename_i v h' ha;have hk:=zke ha;exact zrR hw ha hwm (zmz _ hno.1) znH (zhU hno.2 (Nat.le_trans hk.2.1 (Nat.le_trans hwm hk.1)) w)
    . rename_i f vs ha;obtain ⟨c,fo,ho,hc,_⟩:=zc2 ha;have:=hno.1;rw [ho] at this;simp only [zdl,hc] at this;cases this
    . exact w.elim
  . rename_i hw; exact znu hw (zhU hno.2 hwm w)
  . exact w.elim
theorem zqN {i:Nat} {done:List (Nat×Foot)} {f:zd} {vs:List zd} (hw:awanted ops fr o.guard=Ob Od) (ha:aop T fr.op h o.op=Ob (.call f vs))
 (hk:∀ w,zcC ops i ⟨[],Od,[],w⟩ done=Od)
 (r:zjy T f vs (lay h h.next) λr h1=>∃ v,r=.ret v/\∀ w,Draw T ops rest (i+1) ((i,⟨[],Od,[],w⟩)::done) (putDst fr o.dst v) (lay h1 (min h.wm h1.wm)) Q):Draw T ops (o::rest) i done fr h Q:=by
 obtain ⟨n,r,h1,h2,v,rfl,q⟩:=r;obtain ⟨m,fr',h3,h4,h5⟩:=q (!(Nat.ble h.next h1.wm));have ha':aop T fr.op { h with wm:=h.next } o.op=Ob (.call f vs):=by
  obtain ⟨c,fo,ho,hc,e1,e2⟩:=zc2 ha;rw [ho];simp only [aop,zc1,hc,e1,e2]
 have e:zfT (foot fr.op o) h h1=⟨[],Od,[],!(Nat.ble h.next h1.wm)⟩:=by rw [zig ha]; rfl
 refine ⟨max n m,fr',h3, ?_,h5⟩;have c1:=zgz (T:=T) (zdZ (Nat.le_max_left n m)) _ _ _ _ h2;have c2:=zih (T:=T) (zgz (zdZ (Nat.le_max_right n m))) _ _ _ _ _ _ h4;have c1:acall T (aexec T (max n m)) f vs { h with wm:=h.next }=Ob (.ret v,h1):=c1;simp only [adraw,hw,astep,ha',c1,e,hk,cond_true];exact c2
theorem zi2 {rs:List RE} {L1:List zd->Own} (ks js:List Nat) (hn:(ks++js).Nodup) (hser:ziu d ops rest) (hw:Want ops M Od o.guard) (hd:o.dst=Ob t)
    (H:∀ z fr h,StZ C M L z fr h->∃ f vs,aop T fr.op h o.op=Ob (.call f vs)/\∀ h,z.Sub h->h.wm<=h.next->zgT ⟨z,h,blks (picks L ks)⟩ z h (picks L ks)->zjy T f vs h λr h'=>∃ us z' γ,r=.ret (packed us)/\us.length=rs.length/\Chg ⟨z,h,blks (picks L ks)⟩ h'/\z.le z'/\z'.Sub h'/\(∀ b,b<h.next->b∉blks (picks L ks)->z' b=z b)/\zB z' (tes rs us) us/\zgT ⟨z,h,blks (picks L ks)⟩ z' h' (owns rs us++L1 γ))
    (hq:∀ γ,RQ rs (L1 γ++picks L js) λes L'=>zm C T Oe ops rest ((t,zoK es)::M) L' Q):zm C T d ops (o::rest) M L Q:=by
  cases d with
  | none=>
    intro fr h ⟨z,s⟩;obtain ⟨f,vs,ha,hf⟩:=H z fr h s;simp only [wX,hw.ok s.fr,ha,hd,zaU];refine (hf h s.sub s.chg.ok (s.lent (List.nodup_append.1 hn).1)).mono λr h' ⟨us,z',γ,e1,hl,q,hz,hs,hold,hok,hown⟩=>⟨packed us,e1, ?_⟩;have s':=s.afterM (js:=js) hn q hz hs hold hown;rw [List.append_assoc] at s';exact (hq γ).at hl _ _ ⟨z',s'.set (zks hl hok)⟩
  | some ol=>
    intro z fr h i done s hr hok hdn;obtain ⟨f,vs,ha,hf⟩:=H z fr h s;have hi:ops[i]?=Ob o:=by have:=congrArg (λl=>l[0]?) hr; simpa using this
    have hlt:i<ops.length:=(List.getElem?_eq_some_iff.1 hi).1;have hil:i=ops.length-(rest.length+1):=by
      have:=congrArg List.length hr;rw [List.length_drop,List.length_cons] at this;omega
    obtain ⟨hc,hno⟩:=hser ol rfl;rw [← hil] at hc;have sl:StZ C M L z fr (lay h h.next):=s.low (Nat.le_refl _) (λm _ m2 _=>Nat.le_trans m2 s.chg.next);refine zqN (hw.ok s.fr) ha (λw=>zmE hc hdn) ?_;refine (hf (lay h h.next) sl.sub sl.chg.ok (sl.lent (List.nodup_append.1 hn).1)).mono λr h' ⟨us,z',γ,e1,hl,q,hz,hs,hold,hok,hown⟩=>⟨packed us,e1,λw=>?_⟩;have s':=sl.afterM (js:=js) hn q hz hs hold hown;rw [List.append_assoc] at s';have s'':StZ C M (owns rs us++(L1 γ++picks L js)) z' fr (lay h' (min h.wm h'.wm)):=s'.low (by have:=s'.chg.ok; omega) (λm m1 m2 m3=>by have h1:=s.chg.wm m m1 m2 m3; have h2:=s'.chg.wm m m1 m2 m3; omega);refine zhU hno s''.chg.ok ?_;rw [hd,zaU];exact (hq γ).at hl _ _ ⟨z',s''.set (zks hl hok)⟩
theorem zuD {g:FuncId} {as:List TE} {L0:Own} {rs:List RE} {L1:List zd->Own} (hcst:T.consts.get g=Oe) (hf:zfL T g as L0 rs L1):zzz T (.func (.func g) [] []) as L0 rs L1:=λz h vs h1 h2 h3 h4=>by
 refine zdf hcst ?_;rw [List.nil_append,List.append_nil];exact hf z h vs h1 h2 h3 h4
theorem zpF {c:Call} {x:Operand} {g:FuncId} {as:List TE} {rs:List RE} {L0 Lr:Own} {L1:List zd->Own} (ks js:List Nat) (hser:ziu d ops rest) (hf:zfL T g as L0 rs L1) (h0:picks L ks=L0) (hr:picks L js=Lr) (hn:(ks++js).Nodup) (hcst:T.consts.get g=Oe) (hw:Want ops M Od o.guard) (ho:o.op=.call c) (hd:o.dst=Ob t) (hc:c.callee=.value x) (hx:Opd M x (.raw (.func (.func g) [] []))) (hvs:Opds M c.args.toList as)
 (hq:∀ γ,RQ rs (L1 γ++Lr) λes L'=>zm C T Oe ops rest ((t,zoK es)::M) L' Q):zm C T d ops (o::rest) M L Q:=by
 subst h0 hr;exact zi2 ks js hn hser hw hd (λz fr h s=>⟨.func (.func g) [] [],c.args.toList.map fr.op,by rw [ho]; simp only [aop,zc1,hc,hx.raw s.fr],λh1 h2 h3 h4=>zuD hcst hf z h1 _ h2 h3 (hvs.ok s.fr) h4⟩) hq
theorem zhq {c:Call} {x:Operand} {g:FuncId} {ps cs es:List TE} {rs:List RE} {L0 Lr:Own} {L1:List zd->Own} (ks js:List Nat) (hser:ziu d ops rest) (hf:zfL T g (ps++es++cs) L0 rs L1) (h0:picks L ks=L0) (hr:picks L js=Lr) (hn:(ks++js).Nodup) (hcst:T.consts.get g=Oe) (hw:Want ops M Od o.guard) (ho:o.op=.call c) (hd:o.dst=Ob t) (hc:c.callee=.value x) (hx:Opd M x (.val (zqK g ps cs) ())) (hvs:Opds M c.args.toList es)
 (hq:∀ γ,RQ rs (L1 γ++Lr) λes' L'=>zm C T Oe ops rest ((t,zoK es')::M) L' Q):zm C T d ops (o::rest) M L Q:=by
 subst h0 hr;refine zi2 (rs:=rs) (L1:=L1) ks js hn hser hw hd (λz fr h s=>?_) hq;obtain ⟨us0,vs0,ev,hp,hcs⟩:=znG (hx.val s.fr);refine ⟨.func (.func g) us0 vs0,c.args.toList.map fr.op,by rw [ho]; simp only [aop,zc1,hc,ev],λh1 h2 h3 h4=>?_⟩;exact zdf hcst (hf z h1 _ h2 h3 (zcu (zcu hp (hvs.ok s.fr)) hcs) h4)
theorem zoQ {c:Call} {x:Operand} {yv:zd} {X σ τ:Type} {ins:X->List TE} {step:σ->X->Option (σ⊕τ)} {K:σ⊕τ->List zd->Obj} {s:σ} {a:X} {r:σ⊕τ} {γ:List zd} {L0 Lr:Own} (ks js:List Nat) (hser:ziu d ops rest) (hcb:zr9 T yv ins step K) (hs:step s a=Ob r) (h0:picks L ks=L0) (hL0:L0=[(yv,K (.inl s) γ)]) (hr:picks L js=Lr) (hn:(ks++js).Nodup) (hw:Want ops M Od o.guard) (ho:o.op=.call c) (hd:o.dst=Ob t) (hc:c.callee=.value x) (hx:Opd M x (.raw yv)) (hvs:Opds M c.args.toList (ins a))
 (hq:∀ γ',zm C T Oe ops rest ((t,.val zw r.isLeft)::M) ((yv,K r γ')::Lr) Q):zm C T d ops (o::rest) M L Q:=by
 subst hr h0;refine zi2 (rs:=[.val zw r.isLeft]) (L1:=λγ'=>[(yv,K r γ')]) ks js hn hser hw hd (λz fr h s=>⟨yv,c.args.toList.map fr.op,by rw [ho]; simp only [aop,zc1,hc,hx.raw s.fr],λh1 h2 h3 h4=>?_⟩) (λγ'=>hq γ');rw [hL0] at h4 ⊢;exact hcb.call _ γ a r hs z h1 _ h2 h3 (hvs.ok s.fr) h4
def zzA:Option Nat->zaQ
 | none=>.ret
 | some id=>.exit id
def zzB:Option Nat->Code
 | none=>.ret
 | some id=>.exit id
def ztP {σ τ:Type} (B:zh7) (X:τ->Option Nat):σ⊕τ->zh7
 | .inl _=>{ B with state:=.ready,pending:=Oe }
 | .inr t=>{ B with state:=.done,pending:=Ob (zzB (X t)) }
def znI {σ τ:Type} (X:τ->Option Nat):σ⊕τ->zaQ
 | .inl _=>.normal
 | .inr t=>zzA (X t)
def zgS {σ τ:Type} (l:Nat) (B:zh7) (M:Env) (I:σ⊕τ->List zd->Own) (X:τ->Option Nat) (r:σ⊕τ) (γ:List zd):Obj:=
 .cb (l::blks (I r γ)) λz h=>(∀ p∈I r γ,p.2.ok z h p.1)/\h.get l=Ob (.loop (ztP B X r))/\ziJ z M B.fr
theorem zky {σ τ:Type} {l:Nat} {B:zh7} {I:σ⊕τ->List zd->Own} {X:τ->Option Nat} {r:σ⊕τ} {γ:List zd} {v:zd} (h1:∀ p∈I r γ,p.2.ok z h p.1) (h2:h.get l=Ob (.loop (ztP B X r))) (h3:ziJ z M B.fr):(zgS l B M I X r γ).ok z h v:=by
 refine ⟨⟨h1,h2,h3⟩,λz z' h h' hz hb q=>⟨λp hp=>?_, ?_,q.2.2.mono hz⟩⟩
 . exact Obj.ok_mono hz (λb hb'=>hb b (List.mem_cons_of_mem _ (zbm.2 ⟨p,hp,hb'⟩))) (q.1 p hp)
 . rw [hb l (List.mem_cons_self ..)]; exact q.2.1
def zuE:List Nat->List TE->Env->Env
 | p::ps,e::es,M=>zuE ps es ((p,e)::M)
 | _,_,M=>M
theorem zsa:∀ {ps:List Nat} {es:List TE} {vs:List zd} {M:Env} {fr:zi},zB z es vs->ziJ z M fr->ziJ z (zuE ps es M) (zdt ps vs fr)
 | [],es,vs,M,fr,_,h=>by cases es<;>simpa [zuE,zdt] using h
 | p::ps,[],vs,M,fr,hv,h=>by
  simp only [zB] at hv;subst hv;simpa [zuE,zdt] using h
 | p::ps,e::es,vs,M,fr,hv,h=>by
  simp only [zB] at hv;obtain ⟨v,vs',rfl,h1,h2⟩:=hv;simp only [zuE,zdt];exact zsa h2 (h.set h1)
def zBn {σ τ:Type} (C:Ctx) (I:σ⊕τ->List zd->Own) (X:τ->Option Nat) (r:σ⊕τ) (e:zaQ) (fr:zi) (h:za):Prop:=e=znI X r/\∃ γ,St C [] (I r γ) fr h
def zBo {σ τ:Type} (C:Ctx) (T:Tab) (body:Code) (I:σ⊕τ->List zd->Own) (X:τ->Option Nat) (r:σ⊕τ) (e:zaQ) (fr:zi) (h:za):Prop:=e=.normal/\∃ M1 L1,St C M1 L1 fr h/\∀ C',zeW C' T body M1 L1 (zBn C' I X r)
theorem StZ.ctx {z0:Store} {h0:za} {B0:List Nat} {l:Nat} {x:zfS} (s:StZ ⟨z0,h0,B0⟩ M L z fr h) (hl:l<h0.next) (hB:l∉B0) (hz:z0 l=Oe):StZ ⟨z0,h0.set l x,B0⟩ M L z fr (h.set l x):=by
 have hzl:z l=Oe:=by rw [s.old l hl hB]; exact hz
 have hout:∀ p∈L,∀ b,b∈zeP p->b≠l:=by
  intro p hp b hb e;subst e;rcases (s.own.out p hp b hb).2.2 with q | q
  . have q:h0.next<=b:=q; omega
  . exact hB q
 refine { zle:=s.zle,sub:=λb y hb=>?_,old:=s.old,fr:=s.fr,own:=⟨λp hp=>?_,s.own.out,s.own.nodup⟩,chg:=⟨s.chg.next,λb hb hb'=>?_,λm m1 m2 m3=>?_, ?_⟩ }
 . obtain ⟨h1,h2⟩:=s.sub b y hb;exact ⟨by rw [za.get_set,if_neg (λe=>by subst e; rw [hzl] at hb; cases hb)]; exact h1,h2⟩
 . exact Obj.ok_mono (.refl _) (λb hb=>by rw [za.get_set,if_neg (λe=>hout p hp b hb e)]) (s.own.ok p hp)
 . rw [za.get_set];show _=(h0.set l x).get b;rw [za.get_set];split
   . rfl
   . exact s.chg.same b hb hb'
 . have m1:m<=min h0.wm l:=m1;have:=s.chg.wm m (by
    have:m<=h0.wm:=J
    exact this) m2 m3
   show m<=min h.wm l;omega
 . show min h.wm l<=h.next;have:=s.chg.ok;omega
theorem zpG {σ τ X:Type} {ins:X->List TE} {step:σ->X->Option (σ⊕τ)} {I:σ⊕τ->List zd->Own} {E:τ->Option Nat} {l:Nat} {params:List Nat} {assign body:Code} {fr0:zi} (hp:∀ x,(ins x).length=params.length)
    (hb:∀ s γ x r,step s x=Ob r->∀ C,zeW C T assign (zuE params (ins x) M) (I (.inl s) γ) (zBo C T body I E r)) :
    zr9 T (.func (.yield l) [] []) ins step (zgS l { state:=.ready,pending:=Oe,fr:=fr0,params:=params,assign:=assign,body:=body } M I E):=by
  refine ⟨λs γ x r hs=>?_,rfl,rfl⟩;intro z h vs hsub hwm hvs hown;have hko:=hown.ok _ (List.mem_singleton.2 rfl);obtain ⟨⟨k1,k2,k3⟩,_⟩:=hko;have hblk:blks [((zd.func (.yield l) [] []:zd),zgS l { state:=.ready,pending:=Oe,fr:=fr0,params:=params,assign:=assign,body:=body } M I E (.inl s) γ)]=l::blks (I (.inl s) γ):=by
    rw [zR]; simp [blks,zeP,zgS]
  have hnd:=hown.nodup;rw [hblk] at hnd ⊢;have hl:l<h.next/\z l=Oe:=by
    have:=hown.out _ (List.mem_singleton.2 rfl) l (List.mem_cons_self ..);exact ⟨this.2.1,this.1⟩
  have hlB:l∉blks (I (.inl s) γ):=(List.nodup_cons.1 hnd).1
  -- the assignments
  have s1:StZ ⟨z,h,blks (I (.inl s) γ)⟩ (zuE params (ins x) M) (I (.inl s) γ) z (zdt params vs fr0) h:=
    { zle:=.refl _,sub:=hsub,old:=λ_ _ _=>rfl,fr:=zsa hvs k3,
      own:=⟨k1,λp hp b hb=>by
        have:=hown.out _ (List.mem_singleton.2 rfl) b (List.mem_cons_of_mem _ (zbm.2 ⟨p,hp,hb⟩));exact ⟨this.1,this.2.1,.inr (zbm.2 ⟨p,hp,hb⟩)⟩,(List.nodup_cons.1 hnd).2⟩,
      chg:=⟨Nat.le_refl _,λ_ _ _=>rfl,λ_ m1 _ _=>m1,hwm⟩ }
  obtain ⟨n1,e1,fr1,h1,a1,rfl,M1,L1,⟨z1,t1⟩,hbody⟩:=hb s γ x r hs _ _ _ ⟨z,s1⟩;have hg1:h1.get l=h.get l:=t1.chg.same l hl.1 hlB
  -- the body
  have t2:=t1.ctx (x:=.loop { state:=.busy,pending:=Oe,fr:=fr0,params:=params,assign:=assign,body:=body }) hl.1 hlB hl.2;obtain ⟨n2,e2,fr2,h2,a2,rfl,γ',z2,t3⟩:=hbody _ _ _ ⟨z1,t2⟩;have hl3:∀ b,b∈blks (I r γ')->b≠l:=by
    intro b hb' e;subst e;obtain ⟨p,hp,hb'⟩:=zbm.1 hb';rcases (t3.own.out p hp b hb').2.2 with q | q
    · have q:h.next<=b:=q; omega
    · exact hlB q
  have hz2:z2 l=Oe:=by rw [t3.old l hl.1 hlB]; exact hl.2
  have hn2:h.next<=h2.next:=t3.chg.next;have hlen:vs.length=params.length:=by rw [zbX hvs]; exact hp x
  have fin:around (aexec T (max n1 n2)) l vs h=Ob (.ret (.bool r.isLeft),h2.set l (.loop (ztP { state:=.ready,pending:=Oe,fr:=fr0,params:=params,assign:=assign,body:=body } E r))):=by
    have c1:=zdZ (T:=T) (Nat.le_max_left n1 n2) _ _ _ _ a1;have c2:=zdZ (T:=T) (Nat.le_max_right n1 n2) _ _ _ _ a2;unfold around;simp only [k2,ztP,hlen,and_self,if_true,c1,hg1,c2];cases r with
    | inl s'=>rfl
    | inr t'=>
      simp only [znI,ztP];cases hE:E t'<;>rfl
  refine ⟨max n1 n2,.ret (.bool r.isLeft),h2.set l (.loop (ztP { state:=.ready,pending:=Oe,fr:=fr0,params:=params,assign:=assign,body:=body } E r)), ?_, ?_⟩
  · simp only [acall,List.nil_append];exact fin
  refine ⟨[.bool r.isLeft],z2,γ',rfl,rfl,⟨hn2,λb hb' hB=>?_,λm m1 m2 m3=>?_, ?_⟩,t3.zle,λb y hby=>?_,λb hb' hB=>?_, ?_,⟨λp hp=>?_,λp hp b hb'=>?_, ?_⟩⟩
  · rw [za.get_set,if_neg (λe=>by subst e; exact hB (List.mem_cons_self ..))];have:=t3.chg.same b hb' (λq=>hB (List.mem_cons_of_mem _ q));rw [this];show (h.set l _).get b=_;rw [za.get_set,if_neg (λe=>by subst e; exact hB (List.mem_cons_self ..))]
  · have ml:m<=l:=m3 l (List.mem_cons_self ..);have:=t3.chg.wm m (by show m<=min h.wm l; have m1:m<=h.wm:=m1; omega) m2 (λb hb'=>m3 b (List.mem_cons_of_mem _ hb'));show m<=min h2.wm l;omega
  · show min h2.wm l<=h2.next;have:=t3.chg.ok;omega
  · obtain ⟨q1,q2⟩:=t3.sub b y hby;exact ⟨by rw [za.get_set,if_neg (λe=>by subst e; rw [hz2] at hby; cases hby)]; exact q1,q2⟩
  · exact t3.old b hb' (λq=>hB (List.mem_cons_of_mem _ q))
  · simp only [tes,zB,TE.ok];exact ⟨_,_,rfl,zcQ,rfl⟩
  · rw [show owns [RE.val zw r.isLeft] [zd.bool r.isLeft]=[] from rfl,List.nil_append,List.mem_singleton] at hp;subst hp;refine zky (λp hp=>?_) (by rw [za.get_set,if_pos rfl]) (k3.mono t3.zle);exact Obj.ok_mono (.refl _) (λb hb'=>by rw [za.get_set,if_neg (hl3 b (zbm.2 ⟨p,hp,hb'⟩))]) (t3.own.ok p hp)
  · rw [show owns [RE.val zw r.isLeft] [zd.bool r.isLeft]=[] from rfl,List.nil_append,List.mem_singleton] at hp;subst hp;rcases List.mem_cons.1 hb' with rfl | hb'
    · exact ⟨hz2,Nat.lt_of_lt_of_le hl.1 hn2,.inr (List.mem_cons_self ..)⟩
    · obtain ⟨p,hp,hb'⟩:=zbm.1 hb';obtain ⟨o1,o2,o3⟩:=t3.own.out p hp b hb';refine ⟨o1,o2, ?_⟩;rcases o3 with q | q
      · exact .inl q
      · exact .inr (List.mem_cons_of_mem _ q)
  · rw [show owns [RE.val zw r.isLeft] [zd.bool r.isLeft]=[] from rfl,List.nil_append,zR];show (l::blks (I r γ')++blks []).Nodup;simp only [blks,List.flatMap_nil,List.append_nil];exact List.nodup_cons.2 ⟨λq=>hl3 l q rfl,t3.own.nodup⟩
theorem zfw {x:zd×Obj}:∀ {is:List Nat},picks (x::L) (is.map (·+1))=picks L is
 | []=>rfl
 | i::is=>by
  simp only [List.map_cons,picks,List.getElem?_cons_succ];cases L[i]? with
  | none=>exact zfw
  | some p=>simp only [zfw]
theorem zkz:∀ {L:Own},picks L (List.range L.length)=L
 | []=>rfl
 | x::L=>by
  rw [List.length_cons,List.range_succ_eq_map];simp only [picks,List.getElem?_cons_zero];have e:(List.range L.length).map Nat.succ=(List.range L.length).map (·+1):=rfl;rw [e,zfw,zkz]
theorem zsb {σ τ X:Type} {ins:X->List TE} {step:σ->X->Option (σ⊕τ)} (I:σ⊕τ->List zd->Own) (E:τ->Option Nat) {f:Operand} {params:Array Nat} {assign body:Code} {g:FuncId} {ps cs:List TE} {s0:σ} {r:σ⊕τ} {Lr:Own} (γ0:List zd) (ks js:List Nat)
    (hcst:T.consts.get g=Oe) (hf:Opd M f (.val (zqK g ps cs) ())) (h0:picks L ks=I (.inl s0) γ0) (hr:picks L js=Lr) (hn:(ks++js).Nodup) (hp:∀ x,(ins x).length=params.size)
    (hit:∀ (yv:zd) (K:σ⊕τ->List zd->Obj),zr9 T yv ins step K->∀ γ,zfL T g (ps++[.raw yv]++cs) [(yv,K (.inl s0) γ)] [] λγ'=>[(yv,K r γ')])
    (hb:∀ s γ x r,step s x=Ob r->∀ C,zeW C T assign (zuE params.toList (ins x) M) (I (.inl s) γ) (zBo C T body I E r))
    (out:∀ γ fr h,St C M (I r γ++Lr) fr h->P (znI E r) fr h):zeW C T (.rangeFunc f params assign body) M L P:=by
  subst hr;intro fr h ⟨z,s⟩;obtain ⟨us0,vs0,ev,hps,hcs⟩:=znG (hf.val s.fr);have hpk:StZ C M (I (.inl s0) γ0++picks L js) z fr h:=by
    have e:picks L (ks++js)=I (.inl s0) γ0++picks L js:=by rw [zgg,h0]
    rw [← e];exact { s with own:=⟨λp hp=>s.own.ok p (zbw hp),λp hp=>s.own.out p (zbw hp),zcF s.own.nodup hn⟩ }
  generalize picks L js=Lr at hpk out
  let B:zh7:={ state:=.ready,pending:=Oe,fr:=fr,params:=params.toList,assign:=assign,body:=body }
  have cb:zr9 T (.func (.yield h.next) [] []) ins step (zgS h.next B M I E):=zpG (by simpa using hp) hb;have s2:StZ C M ((.func (.yield h.next) [] [],.cb [h.next] λ_ h'=>h'.get h.next=Ob (.loop B))::(I (.inl s0) γ0++Lr)) z fr (h.push (.loop B)):=
    hpk.pushOwn (.loop B) rfl ⟨by show (h.push (.loop B)).get h.next=_; rw [za.get_push,if_pos rfl],λ_ _ h1 h1' _ hb q=>by
      have q:h1.get h.next=Ob (.loop B):=q;show h1'.get h.next=_;rw [hb _ (List.mem_singleton.2 rfl)]; exact q⟩
  have s3:StZ C M ((.func (.yield h.next) [] [],zgS h.next B M I E (.inl s0) γ0)::Lr) z fr (h.push (.loop B)):=by
    refine s2.repack (List.Perm.of_eq ?_) λp hp'=>?_
    · rw [zR,zR];show (h.next::blks (I (.inl s0) γ0))++blks Lr=[h.next]++blks (I (.inl s0) γ0++Lr);simp [blks]
    · rcases List.mem_cons.1 hp' with rfl | hp'
      · exact zky (λp hp=>s2.own.ok p (List.mem_cons_of_mem _ (List.mem_append_left _ hp))) (by rw [za.get_push,if_pos rfl]; rfl) s.fr
      · exact s2.own.ok p (List.mem_cons_of_mem _ (List.mem_append_right _ hp'))
  have hjs:picks ((.func (.yield h.next) [] [],zgS h.next B M I E (.inl s0) γ0)::Lr) ((List.range Lr.length).map (·+1))=Lr:=by rw [zfw,zkz]
  have hnd:([0]++(List.range Lr.length).map (·+1)).Nodup:=by
    refine List.nodup_append.2 ⟨by simp,List.Pairwise.map _ (λa b q e=>q J) List.nodup_range,λa ha b hb e=>?_⟩;rw [List.mem_singleton] at ha;subst ha;obtain ⟨i,_,q⟩:=List.mem_map.1 hb;omega
  have hL:=s3.lent (ks:=[0]) Ol;have hcall:=hit _ _ cb γ0 z (h.push (.loop B)) (us0++[.func (.yield h.next) [] []]++vs0) s3.sub s3.chg.ok (zcu (zcu hps (by simp [zB,TE.ok])) hcs) hL;have hcall:=zdf (a:=us0) (b:=vs0) hcst hcall;obtain ⟨n,r',h2,hrun,us,z',γ,e1,hl,q,hz,hs,hold,hok,hown⟩:=hcall;have hus:us=[]:=List.length_eq_zero_iff.1 hl;subst hus;have s4:=s3.afterM (ks:=[0]) (js:=(List.range Lr.length).map (·+1)) hnd q hz hs hold hown;rw [hjs] at s4;have s4:StZ C M ((.func (.yield h.next) [] [],zgS h.next B M I E r γ)::Lr) z' fr h2:=s4;obtain ⟨⟨o1,o2,_⟩,_⟩:=s4.own.ok _ (List.mem_cons_self ..);obtain ⟨w1,w2,w3⟩:=s4.own.out _ (List.mem_cons_self ..) h.next (List.mem_cons_self ..);have hnd4:(h.next::(blks (I r γ)++blks Lr)).Nodup:=by
    have:=s4.own.nodup;rw [zR] at this;exact this
  have hblk:blks (I r γ++Lr)=blks (I r γ)++blks Lr:=by simp [blks]
  have s5:StZ C M (I r γ++Lr) z' fr h2:=by
    refine { s4 with own:=⟨λp hp'=>?_,λp hp' b hb'=>?_,by rw [hblk]; exact (List.nodup_cons.1 hnd4).2⟩ }
    · rcases List.mem_append.1 hp' with hp' | hp'
      · exact o1 p hp'
      · exact s4.own.ok p (List.mem_cons_of_mem _ hp')
    · rcases List.mem_append.1 hp' with hp' | hp'
      · exact s4.own.out _ (List.mem_cons_self ..) b (List.mem_cons_of_mem _ (zbm.2 ⟨p,hp',hb'⟩))
      · exact s4.own.out p (List.mem_cons_of_mem _ hp') b hb'
  have s6:∀ x,StZ C M (I r γ++Lr) z' fr (h2.set h.next x):=λx=>s5.wild w1 w2 w3 (by rw [hblk]; exact (List.nodup_cons.1 hnd4).1) x;have hrun':acall T (aexec T n) (fr.op f) [.func (.yield h.next) [] []] (h.push (.loop { state:=.ready,pending:=Oe,fr:=fr,params:=params.toList,assign:=assign,body:=body }))=Ob (r',h2):=by rw [ev]; exact hrun
  subst e1;refine ⟨n+1,znI E r,fr,h2.set h.next (.loop { ztP B E r with state:=.exhausted }), ?_,out γ fr _ ⟨z',s6 _⟩⟩;simp only [aexec,hrun',o2];cases r with
  | inl s'=>rfl
  | inr t'=>
    simp only [ztP,znI];cases hE:E t'<;>rfl
def goL {σ τ:Type}:σ⊕τ->Option σ
 | .inl s=>Ob s
 | .inr _=>Oe
theorem zoR {σ τ:Type} {r:σ⊕τ} {s:σ} (h:goL r=Ob s):r=.inl s:=by
 cases r with
 | inl a=>cases h; rfl
 | inr b=>cases h
def zBp {σ τ A:Type} {B:Type 1} (f:σ->A->B) (g:τ->A->B):σ⊕τ->A->B
 | .inl s=>f s
 | .inr t=>g t
theorem zsc {σ τ:Type} {K:σ⊕τ->List zd->Obj} {yv:zd} {r:σ⊕τ} {s:σ} {γ:List zd} (k:Nat) (hr:r=.inl s) (hk:L[k]?=Ob (yv,K r γ)) {L':Own} (hL:zfE L k (yv,K (.inl s) γ)=Ob L'):∀ z fr h,StZ C M L z fr h->∃ z',z.le z'/\StZ C M L' z' fr h:=λz fr h s0=>by
 subst hr;obtain ⟨rfl,_⟩:=zin hL;rw [set_same hk];exact ⟨z,.refl _,s0⟩
theorem zoS {g:FuncId} {as:List TE} {L0:Own} {rs:List RE} {yv:zd} {F:List zd->Obj} (h:zfL T g as L0 rs λγ=>[(yv,F (untup (gh γ 0)))]):zfL T g as L0 rs λγ=>[(yv,F γ)]:=λz hp vs h1 h2 h3 h4=>
 (h z hp vs h1 h2 h3 h4).mono λ_ _ ⟨us,z',γ,q⟩=>⟨us,z',untup (gh γ 0),q⟩
def zfG (g:FuncId) (cs:List TE):Rep Unit:=
 ⟨1,Oc,λz xs _=>∃ b us ro,xs=[.ptr b 0]/\z b=Ob (.arr [.func (.func g) [] (us++[.ptr b 0])] ro)/\zB z cs us,λ_ _ _ h=>by obtain ⟨_,_,_,h,_⟩:=h; rw [h]; rfl,
  λ_ _ _ _ e h=>let ⟨b,us,ro,h1,h2,h3⟩:=h; ⟨b,us,ro,h1,e _ _ h2,zdB e h3⟩,λ_=>rfl,λ_ _ _ h=>by obtain ⟨_,_,_,h,_⟩:=h; rw [h]; rfl⟩
theorem zsd {g:FuncId} {cs:List TE} {v:zd} {x:Unit} (q:TV (zfG g cs) z v x):∃ b us ro,v=.ptr b 0/\z b=Ob (.arr [.func (.func g) [] (us++[.ptr b 0])] ro)/\zB z cs us:=by
 obtain ⟨⟨b,us,ro,h1,h2,h3⟩,h4⟩:=q;refine ⟨b,us,ro, ?_,h2,h3⟩;cases v<;>simp_all [zd.isAgg,zd.cells,zfG]
theorem zlP {e:TE} {es:List TE} {b:Nat} (k:Nat) (ts:List Nat) (hc:∀ z cells,z b=Ob (.arr cells Oc)->zB z es cells->e.ok z (.ptr b 0)) {L':Own} (hk:L[k]?=Ob (.ptr b 0,.box es)) (hL:zcR L k=Ob L') (hts:zir M (.ptr b 0) ts):∀ z fr h,StZ C M L z fr h->∃ z',z.le z'/\StZ C (zf2 ts e M) L' z' fr h:=by
 intro z fr h s;have ho:=s.own.ok _ (List.mem_of_getElem? hk);simp only [Obj.ok] at ho;obtain ⟨b',cells,q,h2,h3,h4⟩:=ho;cases q;obtain ⟨o1,o2,o3⟩:=s.own.out _ (List.mem_of_getElem? hk) b (by simp [zeP,zhm]);have hle:z.le (z.add b (.arr cells Oc)):=ziq o1;have s':=s.drop hL;have hne:∀ p∈L',∀ c,c∈zeP p->c≠b:=by
  intro p hp c hcb e;subst e;have hp':=(List.Perm.flatMap_right zeP (zce hk hL)).nodup_iff.2 s.own.nodup;have hp':(blks ((zd.ptr c 0,Obj.box es)::L')).Nodup:=hp';rw [zR] at hp';exact (List.nodup_append.1 hp').2.2 c (by simp [zeP,zhm]) c (zbm.2 ⟨p,hp,hcb⟩) rfl
 refine ⟨z.add b (.arr cells Oc),hle,{ zle:=s.zle.trans hle,sub:=?_,old:=?_,fr:=zeI (hc _ _ zg3 (zdB hle h3)) hts (s.fr.mono hle),own:=⟨λp hp=>Obj.ok_mono hle (λ_ _=>rfl) (s'.own.ok p hp),λp hp c hc=>?_,s'.own.nodup⟩,chg:=s.chg }⟩
 . intro c y hc;by_cases e:c=b
   . subst e; rw [zg3] at hc; cases hc; exact ⟨h2,o2⟩
   . rw [add_ne e] at hc; exact s.sub c y hc
 . intro c hc hB;rw [add_ne]
   . exact s.old c hc hB
   . intro e; subst e;rcases o3 with q | q
     . omega
     . exact hB q
 . obtain ⟨q1,q2,q3⟩:=s'.own.out p hp c hc;exact ⟨by rw [add_ne (hne p hp c hc)]; exact q1,q2,q3⟩
theorem zpH {g:FuncId} {cs cs':List TE} {b:Nat} (e:cs'=cs++[.raw (.ptr b 0)]):∀ z cells,z b=Ob (.arr cells Oc)->zB z [.val (zqK g [] cs') ()] cells->(TE.val (zfG g cs) ()).ok z (.ptr b 0):=λz cells hz h=>by
 subst e;simp only [zB,TE.ok] at h ⊢;obtain ⟨v,vs,rfl,h1,rfl⟩:=h;obtain ⟨us,ws,rfl,h2,h3⟩:=znG h1;simp only [zB] at h2;subst h2;obtain ⟨u1,u2,rfl,h4,h5⟩:=zes.1 h3;simp only [zB,TE.ok] at h5;obtain ⟨w,ws',rfl,rfl,rfl⟩:=h5;exact ⟨⟨b,u1,Oc,rfl,hz,h4⟩,rfl⟩
theorem zhr {g:FuncId} {cs cs':List TE} {x:Operand} {et:TypeId} (e:cs'=cs++[.val (zfG g cs) ()]) (hu:Und T et zhH) (hw:Want ops M Od o.guard) (ho:o.op=.load et x) (hd:o.dst=Ob t)
 (hx:Opd M x (.val (zfG g cs) ())) (r:zm C T d ops rest ((t,.val (zqK g [] cs') ())::M) L Q):zm C T d ops (o::rest) M L Q:=by
 subst e;have hf:∀ z fr h,StZ C M L z fr h->foot fr.op o=⟨zS (fr.op x),Oc,[],Oc⟩:=λz fr h s=>by unfold foot; rw [ho]
 have hq:∀ z fr h,StZ C M L z fr h->∀ b,b∈zS (fr.op x)->z b≠Oe/\b<h.next:=λz fr h s b hb=>by
  obtain ⟨b',us,ro,h1,h2,_⟩:=zsd (hx.val s.fr);rw [h1] at hb;simp [zS] at hb;subst hb;exact ⟨by rw [h2]; exact λq=>(nomatch q),(s.sub _ _ h2).2⟩
 refine zfD (.f λz fr h s=>by rw [hf z fr h s]; exact ⟨rfl,rfl,λb hb=>(hq z fr h s b hb).1,λq=>by rw [ho] at q; cases q⟩) (λz fr h s=>by rw [hf z fr h s]; exact ⟨λb hb=>(hq z fr h s b hb).2,λb hb=>(nomatch hb)⟩) hw hd (λz fr h s=>?_) r;have hv:=hx.val s.fr;obtain ⟨b,us,ro,h1,h2,h3⟩:=zsd hv;have hrel:zhH.rel z (([zd.func (.func g) [] (us++[.ptr b 0])].drop 0).take zhH.sz) (.func (.func g) [] (us++[.ptr b 0])):=⟨rfl,rfl,rfl⟩;obtain ⟨v,h5,h6⟩:=zfi (R:=zhH) hu.sz hu.agg (by simp [zhH]) hrel;have hv':=zr8 h6;subst hv';refine ⟨.func (.func g) [] (us++[.ptr b 0]), ?_, ?_⟩
 . rw [ho];simp only [aop,h1,aload,(s.sub _ _ h2).1,h5,z6,Option.map]
 . simp only [TE.ok];refine ⟨⟨[],us++[.ptr b 0],rfl,by simp only [zB], ?_⟩,rfl⟩;refine zcu h3 ?_;simp only [zB,TE.ok];rw [h1] at hv;exact ⟨_,_,rfl,hv,rfl⟩
theorem zBq {M':Env} {L':Own} {R:zi->za->Prop} (is:List Nat) (q:zmu M M') (hL:picks L is=L') (hn:is.Nodup) (k:∀ fr h,St C M' L' fr h->R fr h):∀ fr h,St C M L fr h->R fr h:=λfr h s=>k fr h (s.pick is q hL hn)
def zzC (C:Ctx) (M:Env) (L:Own) (x:Operand) (e:TE):Prop:=∀ z fr h,StZ C M L z fr h->e.ok h.st (fr.op x)
inductive znJ (C:Ctx) (M:Env) (L:Own):List Operand->List TE->Prop where
 | n:znJ C M L [] []
 | c {x:Operand} {e:TE} {xs:List Operand} {es:List TE} (h:zzC C M L x e) (r:znJ C M L xs es):znJ C M L (x::xs) (e::es)
theorem znJ.ok {xs:List Operand} {es:List TE} (q:znJ C M L xs es) (s:StZ C M L z fr h):zB h.st es (xs.map fr.op):=by
 induction q with
 | n=>simp [zB]
 | c h _ ih=>simp only [zB,List.map]; exact ⟨_,_,rfl,h _ _ _ s,ih⟩
def zBr (C:Ctx) (M:Env) (L:Own) (e e':TE):Prop:=∀ z fr h a,StZ C M L z fr h->e.ok z a->e'.ok h.st a
inductive zse (C:Ctx) (M:Env) (L:Own):List TE->List TE->Prop where
 | n:zse C M L [] []
 | c {e e':TE} {es es':List TE} (h:zBr C M L e e') (r:zse C M L es es'):zse C M L (e::es) (e'::es')
theorem zse.ok {es es':List TE} (q:zse C M L es es') (s:StZ C M L z fr h):∀ {vs:List zd},zB z es vs->zB h.st es' vs:=by
 induction q with
 | n=>intro vs h; simpa [zB] using h
 | c h _ ih=>
  intro vs hv;simp only [zB] at hv ⊢;obtain ⟨v,vs',rfl,h1,h2⟩:=hv;exact ⟨v,vs',rfl,h _ _ _ _ s h1,ih h2⟩
end
def mget {A B:Type} [DecidableEq A]:List (A×B)->A->Option B
 | [],_=>Oe
 | (k,v)::es,x=>if x=k then Ob v else mget es x
def mset {A B:Type} [DecidableEq A]:List (A×B)->A->B->List (A×B)
 | [],x,v=>[(x,v)]
 | (k,w)::es,x,v=>if x=k then (x,v)::es else (k,w)::mset es x v
structure zuF (T:Tab) (kt:TypeId) {A:Type} [DecidableEq A] (Q:Rep A):Prop where
 plain:∀ z v x,TV Q z v x->zgs T kt v=Od
 eq:∀ z z' v v' x y,TV Q z v x->TV Q z' v' y->akey v v'=Ob (decide (x=y))
structure KF (T:Tab) (fs:List Field) (i:Nat) {A:Type} [DecidableEq A] (R:Rep A):Prop where
 plain:∀ z cs x,R.rel z cs x->zfx T i fs cs=Od
 eq:∀ z z' cs ds x y,R.rel z cs x->R.rel z' ds y->akeys cs ds=Ob (decide (x=y))
theorem zsf {A:Type} {R:Rep A} {z:Store} {v:zd} {x:A} (h:TV R z v x) (ha:R.agg=Od):∃ cs,v=.agg cs/\R.rel z cs x:=by
 have h1:=h.rel;have h2:=h.agg;rw [ha] at h2;cases v<;>first | exact ⟨_,rfl,h1⟩ | cases h2
theorem zv2 {T:Tab} {i:Nat}:KF T [] i zcE:=by
 refine ⟨λz cs x h=>?_,λz z' cs ds x y h h'=>?_⟩
 . have:cs=[]:=h;rw [this]; rfl
 . have e1:cs=[]:=h;have e2:ds=[]:=h';rw [e1,e2]; simp [akeys]
theorem zkA {A B:Type} [DecidableEq A] [DecidableEq B] (x y:A×B):decide (x=y)=(decide (x.1=y.1)&&decide (x.2=y.2)):=by
 rcases x with ⟨a,b⟩;rcases y with ⟨c,d⟩;simp only [Prod.mk.injEq,Bool.decide_and]
theorem zv3 {T : Tab} {f : Field} {fs : List Field} {i : Nat} {k : IntKind} {B : Type} [DecidableEq B] {S : Rep B} (hn : (f.name != "_") = true) (ho : Nat.beq f.offset i = true) (hu : T.und f.type = some (.int k)) (r : KF T fs (i + 1) S) : KF T (f :: fs) i (zC (zh k) S) := by
 refine ⟨fun z cs x h=>?_,fun z z' cs ds x y h h'=>?_⟩
 ·obtain ⟨c1,c2,rfl,⟨rfl,_⟩,h2⟩:=h;simp [zfx,hn,ho,zh8,hu,r.plain z c2 _ h2]
 ·obtain ⟨c1,c2,rfl,⟨rfl,_⟩,h2⟩:=h;obtain ⟨d1,d2,rfl,⟨rfl,_⟩,h2'⟩:=h';rw [zkA];simp only [List.cons_append,List.nil_append,akeys,zhA,if_true,r.eq z z' _ _ _ _ h2 h2'];by_cases e:x.1=y.1
  ·rw [e]; simp
  ·rw [(by simpa using e:(x.1==y.1)=Oc)]; simp [e]
theorem zsg {T : Tab} {f : Field} {fs : List Field} {i : Nat} {B : Type} [DecidableEq B] {S : Rep B} (hn : (f.name != "_") = true) (ho : Nat.beq f.offset i = true) (hu : T.und f.type = some .bool) (r : KF T fs (i + 1) S) : KF T (f :: fs) i (zC zw S) := by
 refine ⟨fun z cs x h=>?_,fun z z' cs ds x y h h'=>?_⟩
 ·obtain ⟨c1,c2,rfl,h1,h2⟩:=h;have h1:c1=[.bool x.1]:=h1;subst h1;simp [zfx,hn,ho,zh8,hu,r.plain z c2 _ h2]
 ·obtain ⟨c1,c2,rfl,h1,h2⟩:=h;obtain ⟨d1,d2,rfl,h1',h2'⟩:=h';have h1:c1=[.bool x.1]:=h1;have h1':d1=[.bool y.1]:=h1';subst h1 h1';rw [zkA];simp only [List.cons_append,List.nil_append,akeys,zhA,r.eq z z' _ _ _ _ h2 h2'];by_cases e:x.1=y.1
  ·rw [e]; simp
  ·rw [(by simpa using e:(x.1==y.1)=Oc)]; simp [e]
theorem zw5 {T:Tab} {kt:TypeId} {k:IntKind} (hu:T.und kt=Ob (.int k)):zuF T kt (zh k):=by
 refine ⟨λz v x h=>?_,λz z' v v' x y h h'=>?_⟩
 . rw [zpw h]; simp [zgs,hu]
 . rw [zpw h,zpw h'];simp only [akey,zhA,if_true];by_cases e:x=y
   . rw [e]; simp
   . rw [(by simpa using e:(x==y)=Oc)]; simp [e]
theorem zv4 {T:Tab} {kt:TypeId} {fs:Array Field} {A:Type} [DecidableEq A] {R:Rep A} (hu:T.und kt=Ob (.struct fs)) (hs:(!((T.types.get kt).map (·.stood)).getD Od)=Od) (ha:R.agg=Od) (r:KF T fs.toList 0 R):zuF T kt R:=by
 refine ⟨λz v x h=>?_,λz z' v v' x y h h'=>?_⟩
 . obtain ⟨cs,rfl,h1⟩:=zsf h ha;simp [zgs,hu,r.plain z cs x h1] at hs ⊢;exact hs
 . obtain ⟨cs,rfl,h1⟩:=zsf h ha;obtain ⟨ds,rfl,h2⟩:=zsf h' ha;exact r.eq z z' cs ds x y h1 h2
section
variable {A B:Type} [DecidableEq A]
def zi3 {A B:Type} (Q:Rep A) (R:Rep B) (z:Store) (l:List (zd×zd)) (es:List (A×B)):Prop:=
 l.length=es.length/\∀ (i:Nat) (p:zd×zd) (q:A×B),l[i]?=Ob p->es[i]?=Ob q->TV Q z p.1 q.1/\TV R z p.2 q.2
theorem zgi {A B:Type} {Q:Rep A} {R:Rep B} {z:Store} {p:zd×zd} {l:List (zd×zd)} {q:A×B} {es:List (A×B)}:zi3 Q R z (p::l) (q::es)↔(TV Q z p.1 q.1/\TV R z p.2 q.2)/\zi3 Q R z l es:=by
 constructor
 . rintro ⟨h1,h2⟩
   refine ⟨h2 0 p q rfl rfl,by simpa using h1,λi p' q' hp hq=>h2 (i+1) p' q' (by simpa using hp) (by simpa using hq)⟩
 . rintro ⟨h1,h2,h3⟩
   refine ⟨by simp [h2],λi p' q' hp hq=>?_⟩;cases i with
   | zero=>simp at hp hq; subst hp hq; exact h1
   | succ i=>exact h3 i p' q' (by simpa using hp) (by simpa using hq)
theorem zi3.mono {A B:Type} {Q:Rep A} {R:Rep B} {z z':Store} {l:List (zd×zd)} {es:List (A×B)} (e:z.le z') (h:zi3 Q R z l es):zi3 Q R z' l es:=
 ⟨h.1,λi p q hp hq=>⟨(h.2 i p q hp hq).1.mono e,(h.2 i p q hp hq).2.mono e⟩⟩
theorem zkB {T:Tab} {kt:TypeId} {Q:Rep A} {R:Rep B} {z:Store} {kv:zd} {x:A} (hQ:zuF T kt Q) (hkv:TV Q z kv x):∀ {l:List (zd×zd)} {es:List (A×B)} {n:Nat},zi3 Q R z l es ->
    (mget es x=Oe/\afind kv l n=Ob Oe/\∀ (v:zd) (w:B),TV R z v w->zi3 Q R z (l++[(kv,v)]) (mset es x w)) \/
    (∃ i v y,mget es x=Ob y/\afind kv l n=Ob (Ob (n+i,v))/\TV R z v y/\∀ (v:zd) (w:B),TV R z v w->zi3 Q R z (l.set i (kv,v)) (mset es x w))
  | [],[],n,h=>.inl ⟨rfl,rfl,λv w hw=>zgi.2 ⟨⟨hkv,hw⟩,h⟩⟩
  | [],_::_,_,h=>by have:=h.1; simp at this
  | _::_,[],_,h=>by have:=h.1; simp at this
  | (pk,pv)::l,(qk,qv)::es,n,h=>by
    obtain ⟨⟨h1,h2⟩,h3⟩:=zgi.1 h;have ek:=hQ.eq z z kv pk x qk hkv h1;by_cases e:x=qk
    · subst e;rw [decide_eq_true rfl] at ek;right;refine ⟨0,pv,qv,by simp [mget],by simp [afind,ek],h2,λv w hw=>?_⟩;simp only [List.set_cons_zero,mset,if_true];exact zgi.2 ⟨⟨hkv,hw⟩,h3⟩
    · rw [decide_eq_false e] at ek;rcases zkB (n:=n+1) hQ hkv h3 with ⟨a1,a2,a3⟩ | ⟨i,v,y,a1,a2,a3,a4⟩
      · left;refine ⟨by simp [mget,e,a1],by simp [afind,ek,a2],λv w hw=>?_⟩;simp only [mset,if_neg e,List.cons_append];exact zgi.2 ⟨⟨h1,h2⟩,a3 v w hw⟩
      · right;refine ⟨i+1,v,y,by simp [mget,e,a1],by simp only [afind,ek,a2]; congr 3; omega,a3,λv w hw=>?_⟩;simp only [mset,if_neg e,List.set_cons_succ];exact zgi.2 ⟨⟨h1,h2⟩,a4 v w hw⟩
end
structure Mp (T:Tab) (mt:TypeId) {A:Type} [DecidableEq A] (Q:Rep A) (et:TypeId):Prop where
 und:∃ kt,T.und mt=Ob (.map kt et)/\zuF T kt Q
def zrj {A B:Type} (Q:Rep A) (R:Rep B):Rep (List (A×B)):=
 ⟨1,Oc,λz cs es=>∃ v,cs=[v]/\((v=.nm/\es=[])\/∃ b l,v=.map b/\z b=Ob (.mp l)/\zi3 Q R z l es),λ_ _ _ h=>by obtain ⟨v,h,_⟩:=h; rw [h]; rfl,
  λ_ _ _ _ e h=>let ⟨v,h1,h2⟩:=h; ⟨v,h1,h2.imp id λ⟨b,l,g1,g2,g3⟩=>⟨b,l,g1,e _ _ g2,g3.mono e⟩⟩,
  λ_=>rfl,λ_ _ _ h=>by
   obtain ⟨v,h,r⟩:=h;rw [h];rcases r with ⟨rfl,_⟩ | ⟨b,l,rfl,_⟩<;>rfl⟩
theorem zv5 {A B:Type} {Q:Rep A} {R:Rep B} {z:Store} {v:zd} {es:List (A×B)} (h:TV (zrj Q R) z v es):(v=.nm/\es=[])\/∃ b l,v=.map b/\z b=Ob (.mp l)/\zi3 Q R z l es:=by
 have h1:=h.rel;have h2:=h.agg;obtain ⟨v',q,r⟩:=h1;have:v=v':=by
  cases v<;>simp_all [zd.cells,zrj,zd.isAgg]
 subst this;exact r
theorem zsh {A B:Type} {Q:Rep A} {R:Rep B} {z:Store} {b:Nat} {l:List (zd×zd)} {es:List (A×B)} (h:z b=Ob (.mp l)) (r:zi3 Q R z l es):TV (zrj Q R) z (.map b) es:=⟨⟨_,rfl,.inr ⟨b,l,rfl,h,r⟩⟩,rfl⟩
section
variable {A:Type} [DecidableEq A]
variable {C:Ctx} {T:Tab} {d:Option (List Nat)} {ops rest:List Oper} {M:Env} {L:Own} {Q:zi->za->Prop} {P:zaQ->zi->za->Prop} {o:Oper} {t:Nat} {z:Store} {fr:zi} {h:za}
theorem zoT {B:Type} {K:Rep A} (R:Rep B) {mt et:TypeId} {r:Option Operand} (hm:Mp T mt K et) (hr:r=Oe) (hw:Want ops M Od o.guard) (ho:o.op=.makeMap mt r) (hd:o.dst=Ob t)
 (go:∀ b,zm C T d ops rest ((t,.raw (.map b))::M) ((.map b,.mp K R [])::L) Q):zm C T d ops (o::rest) M L Q:=by
 subst hr;obtain ⟨kt,h1,h2⟩:=hm.und;have hno:zdl o.op=Od:=by rw [ho]; rfl
 refine zfh hw (nf hno) λz fr h s=>?_;refine ⟨.map h.next,h.push (.mp []),z,_,_,by rw [ho]; simp only [aop,zeT,h1],nfo hno,.refl _, ?_,go h.next⟩;rw [hd,zaU];refine (s.pushOwn (.mp []) (v:=.map h.next) (ob:=.mp K R []) rfl ?_).set (by simp only [TE.ok]);simp only [Obj.ok];exact ⟨h.next,[],rfl,by rw [za.get_push,if_pos rfl],rfl,by simp⟩
theorem zhs {B:Type} {K:Rep A} {R:Rep B} {mt et:TypeId} {m x y:Operand} {b:Nat} {es:List (A×B)} {i:A} {w:B} (kk:Nat) (hm:Mp T mt K et) (ho:o.op=.mapUpdate mt m x y\/o.op=.insert mt m x y) (hk:L[kk]?=Ob (.map b,.mp K R es)) (hw:Want ops M Od o.guard) (hd:o.dst=Oe)
 (hmx:Opd M m (.raw (.map b))) (hx:Opd M x (.val K i)) (hy:Opd M y (.val R w)) {L':Own} (hL:zfE L kk (.map b,.mp K R (mset es i w))=Ob L') (r:zm C T d ops rest M L' Q):zm C T d ops (o::rest) M L Q:=by
 obtain ⟨kt,h1,h2⟩:=hm.und;have hft:∀ fr:zi,foot fr.op o=⟨[],Oc,zS (fr.op m),Oc⟩:=λfr=>by
  rcases ho with ho | ho<;>(unfold foot; rw [ho])
 have hop:∀ (fr:zi) (h:za),aop T fr.op h o.op=zgt (zbB T mt (fr.op m) (fr.op x) (fr.op y) h):=λfr h=>by
  rcases ho with ho | ho<;>rw [ho]<;>rfl
 refine zjp (.w (by rcases ho with ho | ho<;>rw [ho]<;>rfl) (λt a q=>by rcases ho with ho | ho<;>(rw [ho] at q; cases q)) (by rcases ho with ho | ho<;>rw [ho]<;>rfl) (λq=>by rcases ho with ho | ho<;>(rw [ho] at q; cases q))) (λz fr h s=>by
  rw [hft];exact ⟨λb hb=>(nomatch hb),λb' hb=>zfj s hk rfl b' (by simpa [zS,hmx.raw s.fr] using hb)⟩) hw hd (λz fr h s=>?_) r
 have hob:=s.own.ok _ (List.mem_of_getElem? hk);simp only [Obj.ok] at hob;obtain ⟨b',l,e,g1,g2,g3⟩:=hob;cases e;have hpk:=h2.plain z _ i (hx.val s.fr);rcases zkB (n:=0) (l:=l) (es:=es) (R:=R) h2 (hx.val s.fr) ⟨g2,g3⟩ with ⟨a1,a2,a3⟩ | ⟨j,v,y',a1,a2,a3,a4⟩
 . obtain ⟨k1,k2⟩:=a3 _ w (hy.val s.fr);refine ⟨.tuple [],h.set b (.mp (l++[(fr.op x,fr.op y)])), ?_,s.upd hk rfl rfl _ ?_ hL⟩
   . rw [hop,hmx.raw s.fr];simp only [zbB,h1,hpk,if_true,g1,a2];rfl
   . simp only [Obj.ok];exact ⟨b,_,rfl,by rw [za.get_set,if_pos rfl],k1,k2⟩
 . obtain ⟨k1,k2⟩:=a4 _ w (hy.val s.fr);refine ⟨.tuple [],h.set b (.mp (l.set j (fr.op x,fr.op y))), ?_,s.upd hk rfl rfl _ ?_ hL⟩
   . rw [hop,hmx.raw s.fr];simp only [zbB,h1,hpk,if_true,g1,a2];rw [Nat.zero_add]; rfl
   . simp only [Obj.ok];exact ⟨b,_,rfl,by rw [za.get_set,if_pos rfl],k1,k2⟩
theorem zmF {B:Type} {K:Rep A} {R:Rep B} {mt et:TypeId} {m kv:zd} {l:List (zd×zd)} {es:List (A×B)} {i:A} {w0:B} (hm:Mp T mt K et) (hz:Zr T et R w0) (hkv:TV K z kv i) (hr:zi3 K R z l es)
 (hg:(m=.nm/\l=[])\/∃ b,m=.map b/\h.get b=Ob (.mp l)) (ok:Bool) :
 ∃ v,alookup T mt m kv ok h=Ob (if ok then .tuple [v,.bool (mget es i).isSome] else v)/\TV R z v ((mget es i).getD w0):=by
 obtain ⟨kt,h1,h2⟩:=hm.und;have hpk:=h2.plain z _ i hkv;obtain ⟨zv,z1,z2⟩:=hz.zero;rcases hg with ⟨rfl,rfl⟩ | ⟨b,rfl,g⟩
 . have:es=[]:=List.eq_nil_of_length_eq_zero hr.1.symm;subst this;refine ⟨zv, ?_,by simp only [mget,Option.getD_none]; exact z2 z⟩;simp only [alookup,h1,hpk,if_true,afind,z1,mget];cases ok<;>rfl
 . rcases zkB (n:=0) h2 hkv hr with ⟨a1,a2,_⟩ | ⟨j,v,y',a1,a2,a3,_⟩
   . refine ⟨zv, ?_,by rw [a1]; exact z2 z⟩;simp only [alookup,h1,hpk,if_true,g,a2,z1,a1];cases ok<;>rfl
   . refine ⟨v, ?_,by rw [a1]; exact a3⟩;simp only [alookup,h1,hpk,if_true,g,a2,a1];cases ok<;>rfl
theorem zpI {B:Type} {K:Rep A} {R:Rep B} {mt et:TypeId} {b:Nat} {es:List (A×B)} {kv:zd} {i:A} {w0:B} {kk:Nat} (hm:Mp T mt K et) (hz:Zr T et R w0) (hk:L[kk]?=Ob (.map b,.mp K R es)) (hkv:TV K z kv i) (ok:Bool) (s:StZ C M L z fr h) :
 ∃ v,alookup T mt (.map b) kv ok h=Ob (if ok then .tuple [v,.bool (mget es i).isSome] else v)/\TV R z v ((mget es i).getD w0):=by
 have hob:=s.own.ok _ (List.mem_of_getElem? hk);simp only [Obj.ok] at hob;obtain ⟨b',l,e,g1,g2,g3⟩:=hob;cases e;exact zmF hm hz hkv ⟨g2,g3⟩ (.inr ⟨b,rfl,g1⟩) ok
theorem zzD {B:Type} {K:Rep A} {R:Rep B} {mt et:TypeId} {m x:Operand} {b:Nat} {es:List (A×B)} {i:A} {w0:B} (kk:Nat) (hls:d=Oe) (hm:Mp T mt K et) (hz:Zr T et R w0) (hk:L[kk]?=Ob (.map b,.mp K R es)) (hw:Want ops M Od o.guard) (ho:o.op=.lookup mt m x Oc) (hd:o.dst=Ob t)
 (hmx:Opd M m (.raw (.map b))) (hx:Opd M x (.val K i)) (r:zm C T d ops rest ((t,.val R ((mget es i).getD w0))::M) L Q):zm C T d ops (o::rest) M L Q:=by
 subst hls;intro fr h ⟨z,s⟩;obtain ⟨v,e1,e2⟩:=zpI hm hz hk (hx.val s.fr) Oc s;have ha:aop T fr.op h o.op=Ob (.val v h):=by
  rw [ho]; simp only [aop,hmx.raw s.fr,e1,z6,Option.map,Bool.false_eq_true,if_false]
 simp only [wX,hw.ok s.fr,ha,hd,zaU];exact r _ _ ⟨z,s.set (by simp only [TE.ok]; exact e2)⟩
theorem zjP {B:Type} {K:Rep A} {R:Rep B} {mt et:TypeId} {m x:Operand} {b:Nat} {es:List (A×B)} {i:A} {w0:B} (kk:Nat) (hls:d=Oe) (hm:Mp T mt K et) (hz:Zr T et R w0) (hk:L[kk]?=Ob (.map b,.mp K R es)) (hw:Want ops M Od o.guard) (ho:o.op=.lookup mt m x Od) (hd:o.dst=Ob t)
 (hmx:Opd M m (.raw (.map b))) (hx:Opd M x (.val K i)) (r:zm C T d ops rest ((t,.tup [.val R ((mget es i).getD w0),.val zw (mget es i).isSome])::M) L Q):zm C T d ops (o::rest) M L Q:=by
 subst hls;intro fr h ⟨z,s⟩;obtain ⟨v,e1,e2⟩:=zpI hm hz hk (hx.val s.fr) Od s;have ha:aop T fr.op h o.op=Ob (.val (.tuple [v,.bool (mget es i).isSome]) h):=by
  rw [ho]; simp only [aop,hmx.raw s.fr,e1,z6,Option.map,if_true]
 simp only [wX,hw.ok s.fr,ha,hd,zaU];refine r _ _ ⟨z,s.set ?_⟩;simp only [TE.ok];refine ⟨_,rfl, ?_⟩;simp only [zB,TE.ok];exact ⟨_,_,rfl,e2,_,_,rfl,zcQ,rfl⟩
theorem znK (ev:Operand->zd) {mt:TypeId} {m x:Operand} {ok:Bool} (ho:o.op=.lookup mt m x ok):foot ev o=⟨zS (ev m),Oc,[],Oc⟩:=by unfold foot; rw [ho]
theorem lookq {B:Type} {K:Rep A} {R:Rep B} {mt et:TypeId} {m x:Operand} {es:List (A×B)} {i:A} {w0:B} {ok:Bool} (hm:Mp T mt K et) (hz:Zr T et R w0) (ho:o.op=.lookup mt m x ok)
 (hmx:Opd M m (.val (zrj K R) es)) (hx:Opd M x (.val K i)) :
 Rd C d ops rest M L o/\(∀ z fr h,StZ C M L z fr h->zjo z h (foot fr.op o))/\∀ z fr h,StZ C M L z fr h->∃ v,aop T fr.op h o.op=Ob (.val (if ok then .tuple [v,.bool (mget es i).isSome] else v) h)/\TV R z v ((mget es i).getD w0):=by
 have key:∀ z fr h,StZ C M L z fr h->∀ b,b∈zS (fr.op m)->z b≠Oe/\b<h.next:=by
  intro z fr h s b hb;rcases zv5 (hmx.val s.fr) with ⟨q,_⟩ | ⟨c,l,q,q2,_⟩
  . rw [q] at hb; cases hb
  . rw [q] at hb;have:b=c:=by simpa [zS] using hb
    subst this;exact ⟨by rw [q2]; exact λe=>(nomatch e),(s.sub _ _ q2).2⟩
 refine ⟨.f λz fr h s=>?_,λz fr h s=>?_,λz fr h s=>?_⟩
 . rw [znK _ ho];exact ⟨rfl,rfl,λb hb=>(key z fr h s b hb).1,λq=>by rw [ho] at q; cases q⟩
 . rw [znK _ ho];exact ⟨λb hb=>(key z fr h s b hb).2,λb hb=>(nomatch hb)⟩
 . rcases zv5 (hmx.val s.fr) with ⟨q,rfl⟩ | ⟨c,l,q,q2,q3⟩
   . obtain ⟨v,e1,e2⟩:=zmF (h:=h) (m:=fr.op m) hm hz (hx.val s.fr) (l:=[]) (es:=([]:List (A×B))) ⟨rfl,λi p q hp=>by simp at hp⟩ (.inl ⟨q,rfl⟩) ok;exact ⟨v,by rw [ho]; simp only [aop,e1,z6,Option.map],e2⟩
   . obtain ⟨v,e1,e2⟩:=zmF (h:=h) (m:=fr.op m) hm hz (hx.val s.fr) q3 (.inr ⟨c,q,(s.sub _ _ q2).1⟩) ok;exact ⟨v,by rw [ho]; simp only [aop,e1,z6,Option.map],e2⟩
theorem zw6 {B:Type} {K:Rep A} {R:Rep B} {mt et:TypeId} {m x:Operand} {es:List (A×B)} {i:A} {w0:B} (hm:Mp T mt K et) (hz:Zr T et R w0) (hw:Want ops M Od o.guard) (ho:o.op=.lookup mt m x Oc) (hd:o.dst=Ob t)
 (hmx:Opd M m (.val (zrj K R) es)) (hx:Opd M x (.val K i)) (r:zm C T d ops rest ((t,.val R ((mget es i).getD w0))::M) L Q):zm C T d ops (o::rest) M L Q:=by
 obtain ⟨q1,q2,q3⟩:=lookq (C:=C) (d:=d) (ops:=ops) (rest:=rest) (L:=L) hm hz ho hmx hx;refine zfD q1 q2 hw hd (λz fr h s=>?_) r;obtain ⟨v,e1,e2⟩:=q3 z fr h s;exact ⟨v,by simpa using e1,by simp only [TE.ok]; exact e2⟩
theorem StZ.freezem {A B:Type} {K:Rep A} {R:Rep B} {es:List (A×B)} {b:Nat} (s:StZ C M L z fr h) {k:Nat} {L':Own} (hk:L[k]?=Ob (.map b,.mp K R es)) (hL:zcR L k=Ob L'):∃ z',z.le z'/\StZ C M L' z' fr h/\TV (zrj K R) z' (.map b) es:=by
 have ho:=s.own.ok _ (List.mem_of_getElem? hk);simp only [Obj.ok] at ho;obtain ⟨b',l,e,h2,h3,h5⟩:=ho;cases e;obtain ⟨o1,o2,o3⟩:=s.own.out _ (List.mem_of_getElem? hk) b (by simp [zeP,zhm]);have hle:z.le (z.add b (.mp l)):=ziq o1;have s':=s.drop hL;have hne:∀ p∈L',∀ c,c∈zeP p->c≠b:=by
  intro p hp c hc e;subst e;rw [zio hL] at hp;obtain ⟨j,hj,hjp⟩:=List.getElem_of_mem hp;have hj':(L.eraseIdx k)[j]?=Ob p:=by rw [← hjp]; exact List.getElem?_eq_getElem _
  rw [List.getElem?_eraseIdx] at hj';split at hj'
  . have:=zdC s.own.nodup hj' hk hc (by simp [zeP,zhm]); omega
  . have:=zdC s.own.nodup hj' hk hc (by simp [zeP,zhm]); omega
 refine ⟨z.add b (.mp l),hle,{ zle:=s.zle.trans hle,sub:=?_,old:=?_,fr:=s.fr.mono hle,own:=⟨λp hp=>Obj.ok_mono hle (λ_ _=>rfl) (s'.own.ok p hp),λp hp c hc=>?_,s'.own.nodup⟩,chg:=s.chg }, ?_⟩
 . intro c y hc;by_cases e:c=b
   . subst e; rw [zg3] at hc; cases hc; exact ⟨h2,o2⟩
   . rw [add_ne e] at hc; exact s.sub c y hc
 . intro c hc hB;rw [add_ne]
   . exact s.old c hc hB
   . intro e; subst e;rcases o3 with q | q
     . omega
     . exact hB q
 . obtain ⟨q1,q2,q3⟩:=s'.own.out p hp c hc;exact ⟨by rw [add_ne (hne p hp c hc)]; exact q1,q2,q3⟩
 . exact zsh zg3 (zi3.mono hle ⟨h3,h5⟩)
theorem zsi {b n:Nat} (hl:look M n=Ob (.raw (.map b))):∀ z fr h,StZ C M L z fr h->∃ z',z.le z'/\StZ C ((n,.val zhH (.map b))::M) L z' fr h:=λz fr h s=>by
 have h1:=s.fr _ _ hl;simp only [TE.ok] at h1;exact ⟨z,.refl _,{ s with fr:=zi1 s.fr (by simp only [TE.ok]; rw [h1]; exact ⟨⟨rfl,rfl,rfl⟩,rfl⟩) }⟩
theorem zuG {v:zd}:∀ z c,(TE.val zhH v).ok z c->(TE.raw v).ok z c:=λz c h=>by
 simp only [TE.ok] at h ⊢;exact zr8 h
def ze9 {A:Type} (R:Rep A):Rep (Option A):=
 ⟨1,Oc,λz cs x=>(x=Oe/\cs=[.nq])\/∃ a,x=Ob a/\(zL R).rel z cs a,λz cs x q=>by
  rcases q with ⟨_,rfl⟩ | ⟨a,_,q⟩
  . rfl
  . exact (zL R).len z cs a q,
  λz z' cs x e q=>q.imp id λ⟨a,h1,h2⟩=>⟨a,h1,(zL R).mono z z' cs a e h2⟩,λ_=>rfl,λz cs x q=>by
   rcases q with ⟨_,rfl⟩ | ⟨a,_,q⟩
   . rfl
   . exact (zL R).ones z cs a q⟩
theorem zcv {A:Type} {R:Rep A}:(TE.val (ze9 R) Oe).ok z .nq:=by
 simp only [TE.ok];exact ⟨.inl ⟨rfl,rfl⟩,rfl⟩
theorem zkC {A:Type} {R:Rep A} {a:A} {n:Nat} (hl:look M n=Ob (.val (zL R) a)):∀ z fr h,StZ C M L z fr h->∃ z',z.le z'/\StZ C ((n,.val (ze9 R) (Ob a))::M) L z' fr h:=λz fr h s=>by
 have h1:=s.fr _ _ hl;simp only [TE.ok] at h1;exact ⟨z,.refl _,{ s with fr:=zi1 s.fr (by simp only [TE.ok]; exact ⟨.inr ⟨a,rfl,h1.rel⟩,h1.agg⟩) }⟩
theorem zcr {A:Type} {R:Rep A} {x:Option A} {a:A} {n:Nat} (hx:x=Ob a) (hl:look M n=Ob (.val (ze9 R) x)):∀ z fr h,StZ C M L z fr h->∃ z',z.le z'/\StZ C ((n,.val (zL R) a)::M) L z' fr h:=λz fr h s=>by
 have h1:=s.fr _ _ hl;simp only [TE.ok] at h1;subst hx;exact ⟨z,.refl _,{ s with fr:=zi1 s.fr (by
  simp only [TE.ok];rcases h1.rel with ⟨q,_⟩ | ⟨b,q,h2⟩
  . cases q
  . cases q; exact ⟨h2,h1.agg⟩) }⟩
end
abbrev w64 (n:Int):Int:=IntKind.i64.wrap n
abbrev zBs (k:IntKind) (a b:Int):Int:=k.wrap ((BitVec.ofInt k.bits a &&& BitVec.ofInt k.bits b).toNat)
abbrev bOr (k:IntKind) (a b:Int):Int:=k.wrap ((BitVec.ofInt k.bits a ||| BitVec.ofInt k.bits b).toNat)
abbrev zb0 (k:IntKind) (a b:Int):Int:=k.wrap ((BitVec.ofInt k.bits a &&& ~~~ (BitVec.ofInt k.bits b)).toNat)
theorem okn {z:Store}:zB z [] []:=by simp only [zB]
theorem okint {z:Store} {k:IntKind} {es:List TE} {vs:List zd} (h:zB z es vs):zB z (.val (zh k) 0::es) (.int k 0::vs):=by
 simp only [zB,TE.ok];exact ⟨_,_,rfl,zbW (by cases k<;>decide) (by cases k<;>decide),h⟩
theorem okbool {z:Store} {es:List TE} {vs:List zd} (h:zB z es vs):zB z (.val zw Oc::es) (.bool Oc::vs):=by
 simp only [zB,TE.ok];exact ⟨_,_,rfl,zcQ,h⟩
theorem oknil {A:Type} {R:Rep A} {z:Store} {es:List TE} {vs:List zd} (h:zB z es vs):zB z (.val (zb R) []::es) (.nsz::vs):=by
 simp only [zB,TE.ok];exact ⟨_,_,rfl,zbU ziW,h⟩
theorem okraw {z:Store} {v:zd} {es:List TE} {vs:List zd} (h:zB z es vs):zB z (.raw v::es) (v::vs):=by
 simp only [zB,TE.ok];exact ⟨_,_,rfl,rfl,h⟩
end Go.Ai.Sx
namespace Go.Ai
open Go.RowKit
structure ztQ (A:Type) where
 rel:Store->List zd->A->Prop
 mono:∀ z z' as x,z.le z'->rel z as x->rel z' as x
def zBt:ztQ Unit:=⟨λ_ as _=>as=[],λ_ _ _ _ _ h=>h⟩
def zoU {A B:Type} (R:Rep A) (S:ztQ B):ztQ (A×B):=
 ⟨λh as x=>∃ a rest,as=a::rest/\TV R h a x.1/\S.rel h rest x.2,λ_ _ _ _ e h=>let ⟨a,rest,h1,h2,h3⟩:=h; ⟨a,rest,h1,h2.mono e,S.mono _ _ _ _ e h3⟩⟩
def flat (P:Program) (t:TypeId):Bool:=match P.underlying t with | some (.int _) | some .bool | some (.slice _) | some (.struct _)=>Od | _=>Oc
def znL (P:Program) {A:Type} (ts:List TypeId) (S:ztQ A):Prop:=
 ∀ (H:Type) (enc:TypeId×Value->H) (W:World) (base:Nat) (vs:List Value) (ds:List (DataW H)) (ps:List MemPlace),0<W.heap.size ->
  (∀ (j:Nat) t v,ts[j]?=Ob t->vs[j]?=Ob v->Value.okWide P W .any base t v)->DataW.TrodAll enc P W 0 (λ_=>Od) Od ts vs ds ps->∀ (G:Emb) (h:za),zeV W.heap.size G h W->znv G h ->
   ∃ G' h' as x,Lay W G h G' h'/\zcL G' as vs/\S.rel h'.st as x
section
variable {P:Program}
theorem zqO:znL P [] zBt:=by
 intro H enc W base vs ds ps _ _ hd G h hr hn;obtain ⟨rfl,_⟩:=ChangeShapes.trodAll_nil hd;exact ⟨G,h,[],(),⟨.refl _,hr,hn,.refl _⟩,.nil _,rfl⟩
theorem zfH {A B:Type} {t:TypeId} {ts:List TypeId} {R:Rep A} {S:ztQ B} (ho:Opens P t R) (hf:flat P t=Od) (hs:znL P ts S):znL P (t::ts) (zoU R S):=by
 intro H enc W base vs ds ps hpos hok hd G h hr hn;obtain ⟨v,vs',d,ds',p,q,rfl,rfl,rfl,h1,h2⟩:=ChangeShapes.trodAll_cons hd;obtain ⟨G1,h1',a,x,l1,r1,q1⟩:=zrS ho hpos (hok 0 t v rfl rfl) hf h1 hr hn;obtain ⟨G2,h2',as,y,l2,r2,q2⟩:=hs H enc W base vs' ds' q hpos (λj t' v' ht hv=>hok (j+1) t' v' (by simpa using ht) (by simpa using hv)) h2 G1 h1' l1.heap l1.none;exact ⟨G2,h2',a::as,(x,y),l1.trans l2,.cons (r1.mono l2.ext) r2,a,as,rfl,q1.mono l2.grow.st,q2⟩
theorem ziv {H:Type} {enc:TypeId×Value->H} (hl:laidOutB P=Od) {W W':World} (hb:Below W.heap.size W W'):∀ {ts:List TypeId} {vs:List Value} {ds:List (DataW H)} {ps:List MemPlace},(∀ t∈ts,P.readableRec t=Od/\t<P.types.size) ->
    DataW.TrodAll enc P W 0 (λ_=>Od) Od ts vs ds ps->DataW.TrodAll enc P W' 0 (λb=>decide (b<W.heap.size)) Od ts vs ds ps
  | [],[],[],_,_,h=>h
  | t::ts,v::vs,d::ds,ps,hts,⟨p,q,h1,h2,e⟩=>by
    refine ⟨p,q, ?_,ziv hl hb (λt ht=>hts t (List.mem_cons_of_mem _ ht)) h2,e⟩;obtain ⟨hr,hrow⟩:=hts t (List.mem_cons_self ..);refine Below.trod hl hr hrow h1 hb ?_;have h3:DataW.TrodAll enc P W 0 (λ_=>Od) Od [t] [v] [d] p:=⟨p,[],h1,rfl,by simp⟩;exact DataW.TrodAll.lt h3
  | [],_::_,_,_,_,h=>h.elim
  | [],[],_::_,_,_,h=>h.elim
  | _::_,[],_,_,_,h=>h.elim
  | _::_,_::_,[],_,_,h=>h.elim
end
theorem znM {T:Tab} {C:Checked} (ok:T.Ok C.prog) {f:FuncId} {fn:Func} {s:ChangeSpec} {A:Type} {S:ztQ A} {tb:TypeId}
 (hl:laidOutB C.prog=Od) (hvars:s.vars=[]) (hrt:fn.resultTypes=#[tb]) (hb:C.prog.underlying tb=Ob .bool) (hts:∀ t∈fn.params.toList,C.prog.readableRec t=Od/\t<C.prog.types.size)
 (hfn:∀ (H:Type) (ds:List (DataW H)),ds.length=fn.params.size->s.fn H ds={ results:=[.lit (.bool Od)],args:=ds })
 (ho:znL C.prog fn.params.toList S)
 (law:∀ (h:za) (as:List zd) (x:A),S.rel h.st as x->h.wm<=h.next->∃ n h',zeE T (aexec T n) f as h=Ob (.ret (.bool Od),h'))
 {H:Type} {enc:TypeId×Value->H} {W:World} {base:Nat} {args:Array Value} {ds gs:List (DataW H)} {before:List MemPlace} (hpos:0<W.heap.size)
 (hval:∀ (j:Nat) t v,fn.params[j]?=Ob t->args[j]?=Ob v->Value.okWide C.prog W .any base t v)
 (hW:DataW.Whole enc C.prog fn.params.toList s.vars Oc W args.toList ds gs before) :
 Calls C.prog f args W λe W'=>∃ v,e=.returned v/\s.post enc C.prog fn Oc Od Oc Oc W args v W':=by
 have hW0:=hW;obtain ⟨p,q,hA,hV,rfl,_,_⟩:=hW;have hr0:zeV W.heap.size (λ_=>Oe) ⟨.leaf,0,0⟩ W:=⟨⟨λ_ _ h=>(nomatch h),λ_ _ h=>(nomatch h),λ_ _ _ _ h=>(nomatch h),Nat.le_refl _⟩,λ_ _ h=>(nomatch h)⟩;obtain ⟨G,h,as,x,l,r,hx⟩:=ho H enc W base args.toList ds p hpos (λj t v ht hv=>hval j t v (by simpa using ht) (by simpa using hv)) hA _ _ hr0 (λ_ _ h=>(nomatch h));obtain ⟨n,h',hrun⟩:=law h as x hx (l.grow.wm (Nat.le_refl 0));refine (zmn ok hrun r l.heap).mono λe W' he=>?_;obtain ⟨G',hr',ht,hend⟩:=he;rcases hend with ⟨v,v',hv,rfl,hrel⟩ | ⟨v,v',hv,_⟩
 case inr=>cases hv
 cases hv;cases hrel;refine ⟨_,rfl, ?_⟩;have hbelow:Below W.heap.size W W':=⟨ht.os,ht.tape,ht.output,ht.size,λk hk=>ht.frame k hk (λb l' hb ho'=>absurd ho' (l.none b l' hb))⟩;have hgs:gs=[]/\q=[]:=by
  rw [hvars] at hV;cases gs with
  | nil=>exact ⟨rfl,hV⟩
  | cons _ _=>exact hV.elim
 obtain ⟨rfl,rfl⟩:=hgs;have hlen:=trodAll_length hA;have hres:s.fn H (ds++[])={ results:=[.lit (.bool Od)],args:=ds }:=by rw [List.append_nil]; exact hfn H ds (by rw [hlen.2]; simp)
 refine ⟨ds,[],p++[],[],p,[],hW0, ?_, ?_, ?_,hbelow.frame _,λq=>by cases q⟩
 . rw [hres,hrt];exact ⟨[],[],RowKit.shut_bool hb Od,rfl,rfl⟩
 . rw [hres]; exact ziv hl hbelow hts hA
 . rw [hres,hvars]; exact rfl
end Go.Ai
namespace Go.Ai.Sx
def AOk {A:Type} (S:ztQ A) (ts:A->List TE):Prop:=∀ z vs x,S.rel z vs x->zB z (ts x) vs
theorem zw7:AOk zBt (λ_=>[]):=λz vs x h=>by
 simp only [zB]; exact h
theorem ziw {A B:Type} {R:Rep A} {S:ztQ B} {ts:B->List TE} (h:AOk S ts):AOk (zoU R S) (λx=>.val R x.1::ts x.2):=λz vs x hr=>by
 obtain ⟨a,rest,rfl,h1,h2⟩:=hr;simp only [zB,TE.ok];exact ⟨a,rest,rfl,h1,h _ _ _ h2⟩
theorem zw8 {T:Tab} {g:FuncId} {A:Type} {S:ztQ A} {ts:A->List TE} (ha:AOk S ts) (hf:∀ z vs x,S.rel z vs x->Fun T g (ts x) [.val zw Od]):∀ (h:za) (as:List zd) (x:A),S.rel h.st as x->h.wm<=h.next->∃ n h',zeE T (aexec T n) g as h=Ob (.ret (.bool Od),h'):=by
 intro h as x hr hwm;obtain ⟨n,r,h',e,us,z',rfl,hl,_,_,_,_,hok,_⟩:=hf _ _ x hr h.st h as (zpA h) hwm (ha _ _ _ hr)
 match us,hl with
 | [u],_=>
  simp only [tes,zB,TE.ok] at hok;obtain ⟨v,vs,q,h1,_⟩:=hok;cases q;have:=zoH h1;subst this;exact ⟨n,h',e⟩
end Go.Ai.Sx
namespace Go.Ai
def Tr.toList {α:Type}:Tr α->List (Nat×α)
 | .leaf=>[]
 | .node v l r=>(match v with | some x=>[(0,x)] | none=>[])++(l.toList.map λp=>(2*p.1+1,p.2))++(r.toList.map λp=>(2*p.1+2,p.2))
theorem Tr.mem_toList {α:Type}:∀ (t:Tr α) (n:Nat) (x:α),t.get n=Ob x->(n,x)∈t.toList
 | .leaf,n,x,h=>by simp [Tr.get] at h
 | .node v l r,0,x,h=>by
  have h:v=Ob x:=h;subst h;simp [Tr.toList]
 | .node v l r,m+1,x,h=>by
  rw [Tr.get_succ] at h;simp only [Tr.toList,List.mem_append,List.mem_map];split at h
  . rename_i hm;exact .inl (.inr ⟨_,Tr.mem_toList l _ _ h,by simp; omega⟩)
  . exact .inr ⟨_,Tr.mem_toList r _ _ h,by simp; omega⟩
def zv6 {α:Type} (Q:Nat->α->Prop):List (Nat×α)->Prop
 | []=>True
 | p::l=>Q p.1 p.2/\zv6 Q l
theorem zv6.get {α:Type} {Q:Nat->α->Prop}:∀ {l:List (Nat×α)},zv6 Q l->∀ n x,(n,x)∈l->Q n x
 | _::_,h,n,x,hm=>by
  rcases List.mem_cons.1 hm with q | q
  . cases q; exact h.1
  . exact zv6.get h.2 n x q
def znN (P:Program) (t:Nat) (i:zro):Prop:=
 P.underlying t=Ob i.desc/\∃ j,P.info? t=Ob j/\j.size=i.size/\j.bytes=i.bytes /\
  (∀ z,i.zero=Ob z->∃ zv,j.zero=Ob zv/\zhM zv=Ob z)/\(i.stood=Oc->P.stoodInHeld t=Oc)/\(i.eqg=Oc->P.eqGuardType P.depth t=Oc)
theorem znO {P:Program} {t:Nat} {j ju:TypeInfo} (h1:P.info? t=Ob j) (h2:P.underlying t=Ob ju.desc) :
 znN P t { desc:=ju.desc,size:=j.size,bytes:=j.bytes,zero:=j.zero.bind zhM,stood:=P.stoodInHeld t,eqg:=P.eqGuardType P.depth t }:=by
 refine ⟨h2,j,h1,rfl,rfl,λz hz=>?_,id,id⟩;exact Option.bind_eq_some_iff.1 hz
def zpJ (P:Program) (f:Nat) (F:Func):Prop:=
 P.funcs[f]? = some F ∧ (F.name == "runtime.NumGoroutine") = false ∧ (∀ c, F.body = some c → zdc F.ntmps c = true)
def zsj (F:Func):Bool:=match F.body with | some c=>zdc F.ntmps c | none=>Od
theorem zsk {P : Program} {f : Nat} {F : Func} (h1 : P.funcs[f]? = some F) (h2 : (F.name == "runtime.NumGoroutine") = false) (h3 : zsj F = true) : zpJ P f F := by
 refine ⟨h1,h2,fun c hc=>?_⟩;unfold zsj at h3;rw [hc] at h3;exact h3
theorem zuH {P:Program} {T:Tab} (h1:zv6 (znN P) T.types.toList) (h2:zv6 (zpJ P) T.funcs.toList) (h3:P.follows .mixedOrders=Od) (h4:T.consts=.leaf):T.Ok P:=
 ⟨λt i h=>h1.get t i (Tr.mem_toList _ _ _ h),λf F h=>h2.get f F (Tr.mem_toList _ _ _ h),h3,λg v h=>by rw [h4] at h; cases h⟩
end Go.Ai