/- Functions that call back,and loops over them. -/
import Derived.Test.YtghlaibcihhbcaaGreatK4
import Derived.Test.YtghlaibcihhbcaaGreatK3
import Derived.HandedShaped
import Derived.Carry
import Derived.OpenShut
import Derived.JoinedOf
import Derived.ChangeCalls
import Derived.Test.YtghlaibcihhbcaaGreatK0
set_option linter.unusedSimpArgs false
set_option linter.unusedVariables false
set_option linter.unusedSectionVars false
namespace Go.Ai.Sx
def zxc (T:Tab) (f:ze) (as:List TE) (L0:Own) (rs:List RE) (L1:List ze->Own):Prop:=
 ∀ z h vs,z.Sub h->h.wm<=h.next->zA z as vs->zgL ⟨z,h,blks L0⟩ z h L0->zja T f vs h λr h'=>∃ us z' γ,r=.ret (packed us)/\us.length=rs.length/\Chg ⟨z,h,blks L0⟩ h'/\z.le z'/\z'.Sub h'/\(∀ b,b<h.next->b∉blks L0->z' b=z b)/\zA z' (tes rs us) us/\zgL ⟨z,h,blks L0⟩ z' h' (owns rs us++L1 γ)
structure zsY (T:Tab) (yv:ze) {X σ τ:Type} (ins:X->List TE) (step:σ->X->Option (σ⊕τ)) (K:σ⊕τ->List ze->Obj):Prop where
 call:∀ s γ x r,step s x=some r->zxc T yv (ins x) [(yv,K (.inl s) γ)] [.val zu r.isLeft] λγ'=>[(yv,K r γ')]
 one:yv.one=true
 agg:yv.isAgg=false
def zyu (ops:List Oper) (ol:List Nat) (i:Nat):Bool:=match zb2 ops i with
 | b=>(List.range i).all λp=>b.contains p||(match ops[p]? with | some q=>ziz q.op&&!ol.contains p | none=>false)
def zif (d:Option (List Nat)) (ops rest:List Oper):Prop:=∀ ol,d=some ol->zyu ops ol (ops.length-(rest.length+1))=true/\rest.all (λo=>zcY o.op)=true
section
variable {C:Ctx} {T:Tab} {d:Option (List Nat)} {ops rest:List Oper} {Γ:Env} {L:Own} {Q:zi->za->Prop} {P:zaH->zi->za->Prop} {o:Oper} {t:Nat} {z:Store} {fr:zi} {h:za}
theorem zpJ {a:Foot}:a.apart ⟨[],false,[],false⟩=true:=by
 unfold Foot.apart disj;simp
theorem zm2 {i:Nat} {done:List (Nat×Foot)}:zcc ops i ⟨[],false,[],false⟩ done=true:=by
 unfold zcc;rw [if_pos (List.all_eq_true.2 λp _=>zpJ)]
theorem zn6 {a:Foot}:(⟨[],false,[],false⟩:Foot).apart a=true:=by
 unfold Foot.apart disj;simp
theorem zlW {ol:List Nat} {i:Nat} {f:Foot} {done:List (Nat×Foot)} (hc:zyu ops ol i=true) (hd:zk8 ops ol z i fr h done):zcc ops i f done=true:=by
 unfold zcc;split
 . rfl
 . refine List.all_eq_true.2 λp hp=>?_;obtain ⟨h1,h2,h3,h4,h5,h6⟩:=hd.1 p hp;unfold zyu at hc;have:=List.all_eq_true.1 hc p.1 (List.mem_range.2 h1);rw [Bool.or_eq_true] at this;rcases this with q | q
   . rw [q,Bool.or_true]
   . split at q
     . rename_i o ho;rw [Bool.and_eq_true] at q;have hq:zes ol p.1 o.op=true:=by
        unfold zes;have:=q.1;unfold ziz at this;rw [Bool.or_eq_true] at this;rcases this with k | k
        . rw [k]; rfl
        . rw [k,q.2]; simp
       obtain ⟨k1,k2,_,k4⟩:=h6 o ho hq;have e:p.2=⟨[],false,[],false⟩:=by
        cases hp2:p.2 with
        | mk rd rall wr wall=>
         rw [hp2] at k1 k2 k4 h2;simp only at k1 k2 k4 h2;rw [k1,k2,h2,k4 q.1]
       rw [e,zn6,Bool.true_or]
     . cases q
theorem zhH:∀ {rest:List Oper} {i:Nat} {done:List (Nat×Foot)} {fr:zi} {h:za},rest.all (λo=>zcY o.op)=true->h.wm<=h.next->wX T ops rest fr h Q->Draw T ops rest i done fr h Q
 | [],_,_,_,_,_,_,w=>zoH w
 | o::rest,i,done,fr,h,hno,hwm,w=>by
  rw [List.all_cons,Bool.and_eq_true] at hno;simp only [wX] at w;split at w
  . rename_i hw;split at w
    . rename_i v h' ha;have hk:=zjO ha;exact zqF hw ha hwm (zlP _ hno.1) zm2 (zhH hno.2 (Nat.le_trans hk.2.1 (Nat.le_trans hwm hk.1)) w)
    . rename_i f vs ha;obtain ⟨c,fo,ho,hc,_⟩:=zcE ha;have:=hno.1;rw [ho] at this;simp only [zcY,hc] at this;cases this
    . exact w.elim
  . rename_i hw; exact zmP hw (zhH hno.2 hwm w)
  . exact w.elim
theorem zpK {i:Nat} {done:List (Nat×Foot)} {f:ze} {vs:List ze} (hw:awanted ops fr o.guard=some true) (ha:aop T fr.op h o.op=some (.call f vs))
 (hk:∀ w,zcc ops i ⟨[],true,[],w⟩ done=true)
 (r:zja T f vs (lay h h.next) λr h1=>∃ v,r=.ret v/\∀ w,Draw T ops rest (i+1) ((i,⟨[],true,[],w⟩)::done) (putDst fr o.dst v) (lay h1 (min h.wm h1.wm)) Q):Draw T ops (o::rest) i done fr h Q:=by
 obtain ⟨n,r,h1,h2,v,rfl,q⟩:=r;obtain ⟨m,fr',h3,h4,h5⟩:=q (!(Nat.ble h.next h1.wm));have ha':aop T fr.op { h with wm:=h.next } o.op=some (.call f vs):=by
  obtain ⟨c,fo,ho,hc,e1,e2⟩:=zcE ha;rw [ho];simp only [aop,zcD,hc,e1,e2]
 have e:zfO (foot fr.op o) h h1=⟨[],true,[],!(Nat.ble h.next h1.wm)⟩:=by rw [zh1 ha]; rfl
 refine ⟨max n m,fr',h3, ?_,h5⟩;have c1:=zgv (T:=T) (zdI (Nat.le_max_left n m)) _ _ _ _ h2;have c2:=zh2 (T:=T) (zgv (zdI (Nat.le_max_right n m))) _ _ _ _ _ _ h4;have c1:acall T (aexec T (max n m)) f vs { h with wm:=h.next }=some (.ret v,h1):=c1;simp only [adraw,hw,astep,ha',c1,e,hk,cond_true];exact c2
theorem ziG {rs:List RE} {L1:List ze->Own} (ks js:List Nat) (hn:(ks++js).Nodup) (hser:zif d ops rest) (hw:Want ops Γ true o.guard) (hd:o.dst=some t)
    (H:∀ z fr h,StZ C Γ L z fr h->∃ f vs,aop T fr.op h o.op=some (.call f vs)/\∀ h,z.Sub h->h.wm<=h.next->zgL ⟨z,h,blks (picks L ks)⟩ z h (picks L ks)->zja T f vs h λr h'=>∃ us z' γ,r=.ret (packed us)/\us.length=rs.length/\Chg ⟨z,h,blks (picks L ks)⟩ h'/\z.le z'/\z'.Sub h'/\(∀ b,b<h.next->b∉blks (picks L ks)->z' b=z b)/\zA z' (tes rs us) us/\zgL ⟨z,h,blks (picks L ks)⟩ z' h' (owns rs us++L1 γ))
    (hq:∀ γ,RQ rs (L1 γ++picks L js) λes L'=>zm C T none ops rest ((t,zn3 es)::Γ) L' Q):zm C T d ops (o::rest) Γ L Q:=by
  cases d with
  | none=>
    intro fr h ⟨z,s⟩;obtain ⟨f,vs,ha,hf⟩:=H z fr h s;simp only [wX,hw.ok s.fr,ha,hd,zaL];refine (hf h s.sub s.chg.ok (s.lent (List.nodup_append.1 hn).1)).mono λr h' ⟨us,z',γ,e1,hl,q,hz,hs,hold,hok,hown⟩=>⟨packed us,e1, ?_⟩;have s':=s.afterM (js:=js) hn q hz hs hold hown;rw [List.append_assoc] at s';exact (hq γ).at hl _ _ ⟨z',s'.set (zj1 hl hok)⟩
  | some ol=>
    intro z fr h i done s hr hok hdn;obtain ⟨f,vs,ha,hf⟩:=H z fr h s;have hi:ops[i]?=some o:=by have:=congrArg (λl=>l[0]?) hr; simpa using this
    have hlt:i<ops.length:=(List.getElem?_eq_some_iff.1 hi).1;have hil:i=ops.length-(rest.length+1):=by
      have:=congrArg List.length hr;rw [List.length_drop,List.length_cons] at this;omega
    obtain ⟨hc,hno⟩:=hser ol rfl;rw [← hil] at hc;have sl:StZ C Γ L z fr (lay h h.next):=s.low (Nat.le_refl _) (λm _ m2 _=>Nat.le_trans m2 s.chg.next);refine zpK (hw.ok s.fr) ha (λw=>zlW hc hdn) ?_;refine (hf (lay h h.next) sl.sub sl.chg.ok (sl.lent (List.nodup_append.1 hn).1)).mono λr h' ⟨us,z',γ,e1,hl,q,hz,hs,hold,hok,hown⟩=>⟨packed us,e1,λw=>?_⟩;have s':=sl.afterM (js:=js) hn q hz hs hold hown;rw [List.append_assoc] at s';have s'':StZ C Γ (owns rs us++(L1 γ++picks L js)) z' fr (lay h' (min h.wm h'.wm)):=s'.low (by have:=s'.chg.ok; omega) (λm m1 m2 m3=>by have h1:=s.chg.wm m m1 m2 m3; have h2:=s'.chg.wm m m1 m2 m3; omega);refine zhH hno s''.chg.ok ?_;rw [hd,zaL];exact (hq γ).at hl _ _ ⟨z',s''.set (zj1 hl hok)⟩
theorem zsZ {g:FuncId} {as:List TE} {L0:Own} {rs:List RE} {L1:List ze->Own} (hcst:T.consts.get g=none) (hf:zgM T g as L0 rs L1):zxc T (.func (.func g) [] []) as L0 rs L1:=λz h vs h1 h2 h3 h4=>by
 refine zcS hcst ?_;rw [List.nil_append,List.append_nil];exact hf z h vs h1 h2 h3 h4
theorem zoP {c:Call} {x:Operand} {g:FuncId} {as:List TE} {rs:List RE} {L0 Lr:Own} {L1:List ze->Own} (ks js:List Nat) (hser:zif d ops rest) (hf:zgM T g as L0 rs L1) (h0:picks L ks=L0) (hr:picks L js=Lr) (hn:(ks++js).Nodup) (hcst:T.consts.get g=none) (hw:Want ops Γ true o.guard) (ho:o.op=.call c) (hd:o.dst=some t) (hc:c.callee=.value x) (hx:Opd Γ x (.raw (.func (.func g) [] []))) (hvs:Opds Γ c.args.toList as)
 (hq:∀ γ,RQ rs (L1 γ++Lr) λes L'=>zm C T none ops rest ((t,zn3 es)::Γ) L' Q):zm C T d ops (o::rest) Γ L Q:=by
 subst h0 hr;exact ziG ks js hn hser hw hd (λz fr h s=>⟨.func (.func g) [] [],c.args.toList.map fr.op,by rw [ho]; simp only [aop,zcD,hc,hx.raw s.fr],λh1 h2 h3 h4=>zsZ hcst hf z h1 _ h2 h3 (hvs.ok s.fr) h4⟩) hq
theorem zhi {c:Call} {x:Operand} {g:FuncId} {ps cs es:List TE} {rs:List RE} {L0 Lr:Own} {L1:List ze->Own} (ks js:List Nat) (hser:zif d ops rest) (hf:zgM T g (ps++es++cs) L0 rs L1) (h0:picks L ks=L0) (hr:picks L js=Lr) (hn:(ks++js).Nodup) (hcst:T.consts.get g=none) (hw:Want ops Γ true o.guard) (ho:o.op=.call c) (hd:o.dst=some t) (hc:c.callee=.value x) (hx:Opd Γ x (.val (zp7 g ps cs) ())) (hvs:Opds Γ c.args.toList es)
 (hq:∀ γ,RQ rs (L1 γ++Lr) λes' L'=>zm C T none ops rest ((t,zn3 es')::Γ) L' Q):zm C T d ops (o::rest) Γ L Q:=by
 subst h0 hr;refine ziG (rs:=rs) (L1:=L1) ks js hn hser hw hd (λz fr h s=>?_) hq;obtain ⟨us0,vs0,ev,hp,hcs⟩:=zm1 (hx.val s.fr);refine ⟨.func (.func g) us0 vs0,c.args.toList.map fr.op,by rw [ho]; simp only [aop,zcD,hc,ev],λh1 h2 h3 h4=>?_⟩;exact zcS hcst (hf z h1 _ h2 h3 (zb3 (zb3 hp (hvs.ok s.fr)) hcs) h4)
theorem zqZ {c:Call} {x:Operand} {yv:ze} {X σ τ:Type} {ins:X->List TE} {step:σ->X->Option (σ⊕τ)} {K:σ⊕τ->List ze->Obj} {s:σ} {a:X} {r:σ⊕τ} {γ:List ze} {L0 Lr:Own} (ks js:List Nat) (hser:zif d ops rest) (hcb:zsY T yv ins step K) (hs:step s a=some r) (h0:picks L ks=L0) (hL0:L0=[(yv,K (.inl s) γ)]) (hr:picks L js=Lr) (hn:(ks++js).Nodup) (hw:Want ops Γ true o.guard) (ho:o.op=.call c) (hd:o.dst=some t) (hc:c.callee=.value x) (hx:Opd Γ x (.raw yv)) (hvs:Opds Γ c.args.toList (ins a))
 (hq:∀ γ',zm C T none ops rest ((t,.val zu r.isLeft)::Γ) ((yv,K r γ')::Lr) Q):zm C T d ops (o::rest) Γ L Q:=by
 subst hr h0;refine ziG (rs:=[.val zu r.isLeft]) (L1:=λγ'=>[(yv,K r γ')]) ks js hn hser hw hd (λz fr h s=>⟨yv,c.args.toList.map fr.op,by rw [ho]; simp only [aop,zcD,hc,hx.raw s.fr],λh1 h2 h3 h4=>?_⟩) (λγ'=>hq γ');rw [hL0] at h4 ⊢;exact hcb.call _ γ a r hs z h1 _ h2 h3 (hvs.ok s.fr) h4
def zxd:Option Nat->zaH
 | none=>.ret
 | some id=>.exit id
def zxe:Option Nat->Code
 | none=>.ret
 | some id=>.exit id
def zsc {σ τ:Type} (B:zhS) (X:τ->Option Nat):σ⊕τ->zhS
 | .inl _=>{ B with state:=.ready,pending:=none }
 | .inr t=>{ B with state:=.done,pending:=some (zxe (X t)) }
def zm3 {σ τ:Type} (X:τ->Option Nat):σ⊕τ->zaH
 | .inl _=>.normal
 | .inr t=>zxd (X t)
def zgK {σ τ:Type} (l:Nat) (B:zhS) (Γ:Env) (I:σ⊕τ->List ze->Own) (X:τ->Option Nat) (r:σ⊕τ) (γ:List ze):Obj:=
 .cb (l::blks (I r γ)) λz h=>(∀ p∈I r γ,p.2.ok z h p.1)/\h.get l=some (.loop (zsc B X r))/\zin z Γ B.fr
theorem zj9 {σ τ:Type} {l:Nat} {B:zhS} {I:σ⊕τ->List ze->Own} {X:τ->Option Nat} {r:σ⊕τ} {γ:List ze} {v:ze} (h1:∀ p∈I r γ,p.2.ok z h p.1) (h2:h.get l=some (.loop (zsc B X r))) (h3:zin z Γ B.fr):(zgK l B Γ I X r γ).ok z h v:=by
 refine ⟨⟨h1,h2,h3⟩,λz z' h h' hz hb q=>⟨λp hp=>?_, ?_,q.2.2.mono hz⟩⟩
 . exact Obj.ok_mono hz (λb hb'=>hb b (List.mem_cons_of_mem _ (za3.2 ⟨p,hp,hb'⟩))) (q.1 p hp)
 . rw [hb l (List.mem_cons_self ..)]; exact q.2.1
def zs0:List Nat->List TE->Env->Env
 | p::ps,e::es,Γ=>zs0 ps es ((p,e)::Γ)
 | _,_,Γ=>Γ
theorem zq0:∀ {ps:List Nat} {es:List TE} {vs:List ze} {Γ:Env} {fr:zi},zA z es vs->zin z Γ fr->zin z (zs0 ps es Γ) (zc8 ps vs fr)
 | [],es,vs,Γ,fr,_,h=>by cases es<;>simpa [zs0,zc8] using h
 | p::ps,[],vs,Γ,fr,hv,h=>by
  simp only [zA] at hv;subst hv;simpa [zs0,zc8] using h
 | p::ps,e::es,vs,Γ,fr,hv,h=>by
  simp only [zA] at hv;obtain ⟨v,vs',rfl,h1,h2⟩:=hv;simp only [zs0,zc8];exact zq0 h2 (h.set h1)
def zyv {σ τ:Type} (C:Ctx) (I:σ⊕τ->List ze->Own) (X:τ->Option Nat) (r:σ⊕τ) (e:zaH) (fr:zi) (h:za):Prop:=e=zm3 X r/\∃ γ,St C [] (I r γ) fr h
def zyw {σ τ:Type} (C:Ctx) (T:Tab) (body:Code) (I:σ⊕τ->List ze->Own) (X:τ->Option Nat) (r:σ⊕τ) (e:zaH) (fr:zi) (h:za):Prop:=e=.normal/\∃ Γ1 L1,St C Γ1 L1 fr h/\∀ C',zeL C' T body Γ1 L1 (zyv C' I X r)
theorem StZ.ctx {z0:Store} {h0:za} {B0:List Nat} {l:Nat} {x:zfN} (s:StZ ⟨z0,h0,B0⟩ Γ L z fr h) (hl:l<h0.next) (hB:l∉B0) (hz:z0 l=none):StZ ⟨z0,h0.set l x,B0⟩ Γ L z fr (h.set l x):=by
 have hzl:z l=none:=by rw [s.old l hl hB]; exact hz
 have hout:∀ p∈L,∀ b,b∈zeK p->b≠l:=by
  intro p hp b hb e;subst e;rcases (s.own.out p hp b hb).2.2 with q | q
  . have q:h0.next<=b:=q; omega
  . exact hB q
 refine { zle:=s.zle,sub:=λb y hb=>?_,old:=s.old,fr:=s.fr,own:=⟨λp hp=>?_,s.own.out,s.own.nodup⟩,chg:=⟨s.chg.next,λb hb hb'=>?_,λm m1 m2 m3=>?_, ?_⟩ }
 . obtain ⟨h1,h2⟩:=s.sub b y hb;exact ⟨by rw [za.get_set,if_neg (λe=>by subst e; rw [hzl] at hb; cases hb)]; exact h1,h2⟩
 . exact Obj.ok_mono (.refl _) (λb hb=>by rw [za.get_set,if_neg (λe=>hout p hp b hb e)]) (s.own.ok p hp)
 . rw [za.get_set];show _=(h0.set l x).get b;rw [za.get_set];split
   . rfl
   . exact s.chg.same b hb hb'
 . have m1:m<=min h0.wm l:=m1;have:=s.chg.wm m (by
    have:m<=h0.wm:=by omega
    exact this) m2 m3
   show m<=min h.wm l;omega
 . show min h.wm l<=h.next;have:=s.chg.ok;omega
theorem zoQ {σ τ X:Type} {ins:X->List TE} {step:σ->X->Option (σ⊕τ)} {I:σ⊕τ->List ze->Own} {E:τ->Option Nat} {l:Nat} {params:List Nat} {assign body:Code} {fr0:zi} (hp:∀ x,(ins x).length=params.length)
    (hb:∀ s γ x r,step s x=some r->∀ C,zeL C T assign (zs0 params (ins x) Γ) (I (.inl s) γ) (zyw C T body I E r)) :
    zsY T (.func (.yield l) [] []) ins step (zgK l { state:=.ready,pending:=none,fr:=fr0,params:=params,assign:=assign,body:=body } Γ I E):=by
  refine ⟨λs γ x r hs=>?_,rfl,rfl⟩;intro z h vs hsub hwm hvs hown;have hko:=hown.ok _ (List.mem_singleton.2 rfl);obtain ⟨⟨k1,k2,k3⟩,_⟩:=hko;have hblk:blks [((ze.func (.yield l) [] []:ze),zgK l { state:=.ready,pending:=none,fr:=fr0,params:=params,assign:=assign,body:=body } Γ I E (.inl s) γ)]=l::blks (I (.inl s) γ):=by
    rw [zaa]; simp [blks,zeK,zgK]
  have hnd:=hown.nodup;rw [hblk] at hnd ⊢;have hl:l<h.next/\z l=none:=by
    have:=hown.out _ (List.mem_singleton.2 rfl) l (List.mem_cons_self ..);exact ⟨this.2.1,this.1⟩
  have hlB:l∉blks (I (.inl s) γ):=(List.nodup_cons.1 hnd).1
  -- the assignments
  have s1:StZ ⟨z,h,blks (I (.inl s) γ)⟩ (zs0 params (ins x) Γ) (I (.inl s) γ) z (zc8 params vs fr0) h:=
    { zle:=.refl _,sub:=hsub,old:=λ_ _ _=>rfl,fr:=zq0 hvs k3,
      own:=⟨k1,λp hp b hb=>by
        have:=hown.out _ (List.mem_singleton.2 rfl) b (List.mem_cons_of_mem _ (za3.2 ⟨p,hp,hb⟩));exact ⟨this.1,this.2.1,.inr (za3.2 ⟨p,hp,hb⟩)⟩,(List.nodup_cons.1 hnd).2⟩,
      chg:=⟨Nat.le_refl _,λ_ _ _=>rfl,λ_ m1 _ _=>m1,hwm⟩ }
  obtain ⟨n1,e1,fr1,h1,a1,rfl,Γ1,L1,⟨z1,t1⟩,hbody⟩:=hb s γ x r hs _ _ _ ⟨z,s1⟩;have hg1:h1.get l=h.get l:=t1.chg.same l hl.1 hlB
  -- the body
  have t2:=t1.ctx (x:=.loop { state:=.busy,pending:=none,fr:=fr0,params:=params,assign:=assign,body:=body }) hl.1 hlB hl.2;obtain ⟨n2,e2,fr2,h2,a2,rfl,γ',z2,t3⟩:=hbody _ _ _ ⟨z1,t2⟩;have hl3:∀ b,b∈blks (I r γ')->b≠l:=by
    intro b hb' e;subst e;obtain ⟨p,hp,hb'⟩:=za3.1 hb';rcases (t3.own.out p hp b hb').2.2 with q | q
    · have q:h.next<=b:=q; omega
    · exact hlB q
  have hz2:z2 l=none:=by rw [t3.old l hl.1 hlB]; exact hl.2
  have hn2:h.next<=h2.next:=t3.chg.next;have hlen:vs.length=params.length:=by rw [zbE hvs]; exact hp x
  have fin:around (aexec T (max n1 n2)) l vs h=some (.ret (.bool r.isLeft),h2.set l (.loop (zsc { state:=.ready,pending:=none,fr:=fr0,params:=params,assign:=assign,body:=body } E r))):=by
    have c1:=zdI (T:=T) (Nat.le_max_left n1 n2) _ _ _ _ a1;have c2:=zdI (T:=T) (Nat.le_max_right n1 n2) _ _ _ _ a2;unfold around;simp only [k2,zsc,hlen,and_self,if_true,c1,hg1,c2];cases r with
    | inl s'=>rfl
    | inr t'=>
      simp only [zm3,zsc];cases hE:E t'<;>rfl
  refine ⟨max n1 n2,.ret (.bool r.isLeft),h2.set l (.loop (zsc { state:=.ready,pending:=none,fr:=fr0,params:=params,assign:=assign,body:=body } E r)), ?_, ?_⟩
  · simp only [acall,List.nil_append];exact fin
  refine ⟨[.bool r.isLeft],z2,γ',rfl,rfl,⟨hn2,λb hb' hB=>?_,λm m1 m2 m3=>?_, ?_⟩,t3.zle,λb y hby=>?_,λb hb' hB=>?_, ?_,⟨λp hp=>?_,λp hp b hb'=>?_, ?_⟩⟩
  · rw [za.get_set,if_neg (λe=>by subst e; exact hB (List.mem_cons_self ..))];have:=t3.chg.same b hb' (λq=>hB (List.mem_cons_of_mem _ q));rw [this];show (h.set l _).get b=_;rw [za.get_set,if_neg (λe=>by subst e; exact hB (List.mem_cons_self ..))]
  · have ml:m<=l:=m3 l (List.mem_cons_self ..);have:=t3.chg.wm m (by show m<=min h.wm l; have m1:m<=h.wm:=m1; omega) m2 (λb hb'=>m3 b (List.mem_cons_of_mem _ hb'));show m<=min h2.wm l;omega
  · show min h2.wm l<=h2.next;have:=t3.chg.ok;omega
  · obtain ⟨q1,q2⟩:=t3.sub b y hby;exact ⟨by rw [za.get_set,if_neg (λe=>by subst e; rw [hz2] at hby; cases hby)]; exact q1,q2⟩
  · exact t3.old b hb' (λq=>hB (List.mem_cons_of_mem _ q))
  · simp only [tes,zA,TE.ok];exact ⟨_,_,rfl,zcs,rfl⟩
  · rw [show owns [RE.val zu r.isLeft] [ze.bool r.isLeft]=[] from rfl,List.nil_append,List.mem_singleton] at hp;subst hp;refine zj9 (λp hp=>?_) (by rw [za.get_set,if_pos rfl]) (k3.mono t3.zle);exact Obj.ok_mono (.refl _) (λb hb'=>by rw [za.get_set,if_neg (hl3 b (za3.2 ⟨p,hp,hb'⟩))]) (t3.own.ok p hp)
  · rw [show owns [RE.val zu r.isLeft] [ze.bool r.isLeft]=[] from rfl,List.nil_append,List.mem_singleton] at hp;subst hp;rcases List.mem_cons.1 hb' with rfl | hb'
    · exact ⟨hz2,Nat.lt_of_lt_of_le hl.1 hn2,.inr (List.mem_cons_self ..)⟩
    · obtain ⟨p,hp,hb'⟩:=za3.1 hb';obtain ⟨o1,o2,o3⟩:=t3.own.out p hp b hb';refine ⟨o1,o2, ?_⟩;rcases o3 with q | q
      · exact .inl q
      · exact .inr (List.mem_cons_of_mem _ q)
  · rw [show owns [RE.val zu r.isLeft] [ze.bool r.isLeft]=[] from rfl,List.nil_append,zaa];show (l::blks (I r γ')++blks []).Nodup;simp only [blks,List.flatMap_nil,List.append_nil];exact List.nodup_cons.2 ⟨λq=>hl3 l q rfl,t3.own.nodup⟩
theorem zfl {x:ze×Obj}:∀ {is:List Nat},picks (x::L) (is.map (·+1))=picks L is
 | []=>rfl
 | i::is=>by
  simp only [List.map_cons,picks,List.getElem?_cons_succ];cases L[i]? with
  | none=>exact zfl
  | some p=>simp only [zfl]
theorem zka:∀ {L:Own},picks L (List.range L.length)=L
 | []=>rfl
 | x::L=>by
  rw [List.length_cons,List.range_succ_eq_map];simp only [picks,List.getElem?_cons_zero];have e:(List.range L.length).map Nat.succ=(List.range L.length).map (·+1):=rfl;rw [e,zfl,zka]
theorem zu5 {σ τ X:Type} {ins:X->List TE} {step:σ->X->Option (σ⊕τ)} (I:σ⊕τ->List ze->Own) (E:τ->Option Nat) {f:Operand} {params:Array Nat} {assign body:Code} {g:FuncId} {ps cs:List TE} {s0:σ} {r:σ⊕τ} {Lr:Own} (γ0:List ze) (ks js:List Nat)
    (hcst:T.consts.get g=none) (hf:Opd Γ f (.val (zp7 g ps cs) ())) (h0:picks L ks=I (.inl s0) γ0) (hr:picks L js=Lr) (hn:(ks++js).Nodup) (hp:∀ x,(ins x).length=params.size)
    (hit:∀ (yv:ze) (K:σ⊕τ->List ze->Obj),zsY T yv ins step K->∀ γ,zgM T g (ps++[.raw yv]++cs) [(yv,K (.inl s0) γ)] [] λγ'=>[(yv,K r γ')])
    (hb:∀ s γ x r,step s x=some r->∀ C,zeL C T assign (zs0 params.toList (ins x) Γ) (I (.inl s) γ) (zyw C T body I E r))
    (out:∀ γ fr h,St C Γ (I r γ++Lr) fr h->P (zm3 E r) fr h):zeL C T (.rangeFunc f params assign body) Γ L P:=by
  subst hr;intro fr h ⟨z,s⟩;obtain ⟨us0,vs0,ev,hps,hcs⟩:=zm1 (hf.val s.fr);have hpk:StZ C Γ (I (.inl s0) γ0++picks L js) z fr h:=by
    have e:picks L (ks++js)=I (.inl s0) γ0++picks L js:=by rw [zgb,h0]
    rw [← e];exact { s with own:=⟨λp hp=>s.own.ok p (zbg hp),λp hp=>s.own.out p (zbg hp),zcf s.own.nodup hn⟩ }
  generalize picks L js=Lr at hpk out
  let B:zhS:={ state:=.ready,pending:=none,fr:=fr,params:=params.toList,assign:=assign,body:=body }
  have cb:zsY T (.func (.yield h.next) [] []) ins step (zgK h.next B Γ I E):=zoQ (by simpa using hp) hb;have s2:StZ C Γ ((.func (.yield h.next) [] [],.cb [h.next] λ_ h'=>h'.get h.next=some (.loop B))::(I (.inl s0) γ0++Lr)) z fr (h.push (.loop B)):=
    hpk.pushOwn (.loop B) rfl ⟨by show (h.push (.loop B)).get h.next=_; rw [za.get_push,if_pos rfl],λ_ _ h1 h1' _ hb q=>by
      have q:h1.get h.next=some (.loop B):=q;show h1'.get h.next=_;rw [hb _ (List.mem_singleton.2 rfl)]; exact q⟩
  have s3:StZ C Γ ((.func (.yield h.next) [] [],zgK h.next B Γ I E (.inl s0) γ0)::Lr) z fr (h.push (.loop B)):=by
    refine s2.repack (List.Perm.of_eq ?_) λp hp'=>?_
    · rw [zaa,zaa];show (h.next::blks (I (.inl s0) γ0))++blks Lr=[h.next]++blks (I (.inl s0) γ0++Lr);simp [blks]
    · rcases List.mem_cons.1 hp' with rfl | hp'
      · exact zj9 (λp hp=>s2.own.ok p (List.mem_cons_of_mem _ (List.mem_append_left _ hp))) (by rw [za.get_push,if_pos rfl]; rfl) s.fr
      · exact s2.own.ok p (List.mem_cons_of_mem _ (List.mem_append_right _ hp'))
  have hjs:picks ((.func (.yield h.next) [] [],zgK h.next B Γ I E (.inl s0) γ0)::Lr) ((List.range Lr.length).map (·+1))=Lr:=by rw [zfl,zka]
  have hnd:([0]++(List.range Lr.length).map (·+1)).Nodup:=by
    refine List.nodup_append.2 ⟨by simp,List.Pairwise.map _ (λa b q e=>q (by omega)) List.nodup_range,λa ha b hb e=>?_⟩;rw [List.mem_singleton] at ha;subst ha;obtain ⟨i,_,q⟩:=List.mem_map.1 hb;omega
  have hL:=s3.lent (ks:=[0]) (by simp);have hcall:=hit _ _ cb γ0 z (h.push (.loop B)) (us0++[.func (.yield h.next) [] []]++vs0) s3.sub s3.chg.ok (zb3 (zb3 hps (by simp [zA,TE.ok])) hcs) hL;have hcall:=zcS (a:=us0) (b:=vs0) hcst hcall;obtain ⟨n,r',h2,hrun,us,z',γ,e1,hl,q,hz,hs,hold,hok,hown⟩:=hcall;have hus:us=[]:=List.length_eq_zero_iff.1 hl;subst hus;have s4:=s3.afterM (ks:=[0]) (js:=(List.range Lr.length).map (·+1)) hnd q hz hs hold hown;rw [hjs] at s4;have s4:StZ C Γ ((.func (.yield h.next) [] [],zgK h.next B Γ I E r γ)::Lr) z' fr h2:=s4;obtain ⟨⟨o1,o2,_⟩,_⟩:=s4.own.ok _ (List.mem_cons_self ..);obtain ⟨w1,w2,w3⟩:=s4.own.out _ (List.mem_cons_self ..) h.next (List.mem_cons_self ..);have hnd4:(h.next::(blks (I r γ)++blks Lr)).Nodup:=by
    have:=s4.own.nodup;rw [zaa] at this;exact this
  have hblk:blks (I r γ++Lr)=blks (I r γ)++blks Lr:=by simp [blks]
  have s5:StZ C Γ (I r γ++Lr) z' fr h2:=by
    refine { s4 with own:=⟨λp hp'=>?_,λp hp' b hb'=>?_,by rw [hblk]; exact (List.nodup_cons.1 hnd4).2⟩ }
    · rcases List.mem_append.1 hp' with hp' | hp'
      · exact o1 p hp'
      · exact s4.own.ok p (List.mem_cons_of_mem _ hp')
    · rcases List.mem_append.1 hp' with hp' | hp'
      · exact s4.own.out _ (List.mem_cons_self ..) b (List.mem_cons_of_mem _ (za3.2 ⟨p,hp',hb'⟩))
      · exact s4.own.out p (List.mem_cons_of_mem _ hp') b hb'
  have s6:∀ x,StZ C Γ (I r γ++Lr) z' fr (h2.set h.next x):=λx=>s5.wild w1 w2 w3 (by rw [hblk]; exact (List.nodup_cons.1 hnd4).1) x;have hrun':acall T (aexec T n) (fr.op f) [.func (.yield h.next) [] []] (h.push (.loop { state:=.ready,pending:=none,fr:=fr,params:=params.toList,assign:=assign,body:=body }))=some (r',h2):=by rw [ev]; exact hrun
  subst e1;refine ⟨n+1,zm3 E r,fr,h2.set h.next (.loop { zsc B E r with state:=.exhausted }), ?_,out γ fr _ ⟨z',s6 _⟩⟩;simp only [aexec,hrun',o2];cases r with
  | inl s'=>rfl
  | inr t'=>
    simp only [zsc,zm3];cases hE:E t'<;>rfl
def goL {σ τ:Type}:σ⊕τ->Option σ
 | .inl s=>some s
 | .inr _=>none
theorem zq1 {σ τ:Type} {r:σ⊕τ} {s:σ} (h:goL r=some s):r=.inl s:=by
 cases r with
 | inl a=>cases h; rfl
 | inr b=>cases h
def zza {σ τ A:Type} {B:Type 1} (f:σ->A->B) (g:τ->A->B):σ⊕τ->A->B
 | .inl s=>f s
 | .inr t=>g t
theorem zug {σ τ:Type} {K:σ⊕τ->List ze->Obj} {yv:ze} {r:σ⊕τ} {s:σ} {γ:List ze} (k:Nat) (hr:r=.inl s) (hk:L[k]?=some (yv,K r γ)) {L':Own} (hL:zfw L k (yv,K (.inl s) γ)=some L'):∀ z fr h,StZ C Γ L z fr h->∃ z',z.le z'/\StZ C Γ L' z' fr h:=λz fr h s0=>by
 subst hr;obtain ⟨rfl,_⟩:=zh9 hL;rw [set_same hk];exact ⟨z,.refl _,s0⟩
theorem zq2 {g:FuncId} {as:List TE} {L0:Own} {rs:List RE} {yv:ze} {F:List ze->Obj} (h:zgM T g as L0 rs λγ=>[(yv,F (untup (gh γ 0)))]):zgM T g as L0 rs λγ=>[(yv,F γ)]:=λz hp vs h1 h2 h3 h4=>
 (h z hp vs h1 h2 h3 h4).mono λ_ _ ⟨us,z',γ,q⟩=>⟨us,z',untup (gh γ 0),q⟩
def zfy (g:FuncId) (cs:List TE):Rep Unit:=
 ⟨1,false,λz xs _=>∃ b us ro,xs=[.ptr b 0]/\z b=some (.arr [.func (.func g) [] (us++[.ptr b 0])] ro)/\zA z cs us,λ_ _ _ h=>by obtain ⟨_,_,_,h,_⟩:=h; rw [h]; rfl,
  λ_ _ _ _ e h=>let ⟨b,us,ro,h1,h2,h3⟩:=h; ⟨b,us,ro,h1,e _ _ h2,zdl e h3⟩,λ_=>rfl,λ_ _ _ h=>by obtain ⟨_,_,_,h,_⟩:=h; rw [h]; rfl⟩
theorem zq3 {g:FuncId} {cs:List TE} {v:ze} {x:Unit} (q:TV (zfy g cs) z v x):∃ b us ro,v=.ptr b 0/\z b=some (.arr [.func (.func g) [] (us++[.ptr b 0])] ro)/\zA z cs us:=by
 obtain ⟨⟨b,us,ro,h1,h2,h3⟩,h4⟩:=q;refine ⟨b,us,ro, ?_,h2,h3⟩;cases v<;>simp_all [ze.isAgg,ze.cells,zfy]
theorem zlc {e:TE} {es:List TE} {b:Nat} (k:Nat) (ts:List Nat) (hc:∀ z cells,z b=some (.arr cells false)->zA z es cells->e.ok z (.ptr b 0)) {L':Own} (hk:L[k]?=some (.ptr b 0,.box es)) (hL:zdU L k=some L') (hts:zic Γ (.ptr b 0) ts):∀ z fr h,StZ C Γ L z fr h->∃ z',z.le z'/\StZ C (zfX ts e Γ) L' z' fr h:=by
 intro z fr h s;have ho:=s.own.ok _ (List.mem_of_getElem? hk);simp only [Obj.ok] at ho;obtain ⟨b',cells,q,h2,h3,h4⟩:=ho;cases q;obtain ⟨o1,o2,o3⟩:=s.own.out _ (List.mem_of_getElem? hk) b (by simp [zeK,zh4]);have hle:z.le (z.add b (.arr cells false)):=zib o1;have s':=s.drop hL;have hne:∀ p∈L',∀ c,c∈zeK p->c≠b:=by
  intro p hp c hcb e;subst e;have hp':=(List.Perm.flatMap_right zeK (zeu hk hL)).nodup_iff.2 s.own.nodup;have hp':(blks ((ze.ptr c 0,Obj.box es)::L')).Nodup:=hp';rw [zaa] at hp';exact (List.nodup_append.1 hp').2.2 c (by simp [zeK,zh4]) c (za3.2 ⟨p,hp,hcb⟩) rfl
 refine ⟨z.add b (.arr cells false),hle,{ zle:=s.zle.trans hle,sub:=?_,old:=?_,fr:=zev (hc _ _ zgU (zdl hle h3)) hts (s.fr.mono hle),own:=⟨λp hp=>Obj.ok_mono hle (λ_ _=>rfl) (s'.own.ok p hp),λp hp c hc=>?_,s'.own.nodup⟩,chg:=s.chg }⟩
 . intro c y hc;by_cases e:c=b
   . subst e; rw [zgU] at hc; cases hc; exact ⟨h2,o2⟩
   . rw [add_ne e] at hc; exact s.sub c y hc
 . intro c hc hB;rw [add_ne]
   . exact s.old c hc hB
   . intro e; subst e;rcases o3 with q | q
     . omega
     . exact hB q
 . obtain ⟨q1,q2,q3⟩:=s'.own.out p hp c hc;exact ⟨by rw [add_ne (hne p hp c hc)]; exact q1,q2,q3⟩
theorem zoR {g:FuncId} {cs cs':List TE} {b:Nat} (e:cs'=cs++[.raw (.ptr b 0)]):∀ z cells,z b=some (.arr cells false)->zA z [.val (zp7 g [] cs') ()] cells->(TE.val (zfy g cs) ()).ok z (.ptr b 0):=λz cells hz h=>by
 subst e;simp only [zA,TE.ok] at h ⊢;obtain ⟨v,vs,rfl,h1,rfl⟩:=h;obtain ⟨us,ws,rfl,h2,h3⟩:=zm1 h1;simp only [zA] at h2;subst h2;obtain ⟨u1,u2,rfl,h4,h5⟩:=zd9.1 h3;simp only [zA,TE.ok] at h5;obtain ⟨w,ws',rfl,rfl,rfl⟩:=h5;exact ⟨⟨b,u1,false,rfl,hz,h4⟩,rfl⟩
theorem zhj {g:FuncId} {cs cs':List TE} {x:Operand} {et:TypeId} (e:cs'=cs++[.val (zfy g cs) ()]) (hu:Und T et zpI) (hw:Want ops Γ true o.guard) (ho:o.op=.load et x) (hd:o.dst=some t)
 (hx:Opd Γ x (.val (zfy g cs) ())) (r:zm C T d ops rest ((t,.val (zp7 g [] cs') ())::Γ) L Q):zm C T d ops (o::rest) Γ L Q:=by
 subst e;have hf:∀ z fr h,StZ C Γ L z fr h->foot fr.op o=⟨zL (fr.op x),false,[],false⟩:=λz fr h s=>by unfold foot; rw [ho]
 have hq:∀ z fr h,StZ C Γ L z fr h->∀ b,b∈zL (fr.op x)->z b≠none/\b<h.next:=λz fr h s b hb=>by
  obtain ⟨b',us,ro,h1,h2,_⟩:=zq3 (hx.val s.fr);rw [h1] at hb;simp [zL] at hb;subst hb;exact ⟨by rw [h2]; exact λq=>(nomatch q),(s.sub _ _ h2).2⟩
 refine zfu (.f λz fr h s=>by rw [hf z fr h s]; exact ⟨rfl,rfl,λb hb=>(hq z fr h s b hb).1,λq=>by rw [ho] at q; cases q⟩) (λz fr h s=>by rw [hf z fr h s]; exact ⟨λb hb=>(hq z fr h s b hb).2,λb hb=>(nomatch hb)⟩) hw hd (λz fr h s=>?_) r;have hv:=hx.val s.fr;obtain ⟨b,us,ro,h1,h2,h3⟩:=zq3 hv;have hrel:zpI.rel z (([ze.func (.func g) [] (us++[.ptr b 0])].drop 0).take zpI.sz) (.func (.func g) [] (us++[.ptr b 0])):=⟨rfl,rfl,rfl⟩;obtain ⟨v,h5,h6⟩:=zfb (R:=zpI) hu.sz hu.agg (by simp [zpI]) hrel;have hv':=zuf h6;subst hv';refine ⟨.func (.func g) [] (us++[.ptr b 0]), ?_, ?_⟩
 . rw [ho];simp only [aop,h1,aload,(s.sub _ _ h2).1,h5,zW,Option.map]
 . simp only [TE.ok];refine ⟨⟨[],us++[.ptr b 0],rfl,by simp only [zA], ?_⟩,rfl⟩;refine zb3 h3 ?_;simp only [zA,TE.ok];rw [h1] at hv;exact ⟨_,_,rfl,hv,rfl⟩
theorem zyx {Γ':Env} {L':Own} {R:zi->za->Prop} (is:List Nat) (q:zlK Γ Γ') (hL:picks L is=L') (hn:is.Nodup) (k:∀ fr h,St C Γ' L' fr h->R fr h):∀ fr h,St C Γ L fr h->R fr h:=λfr h s=>k fr h (s.pick is q hL hn)
def zxf (C:Ctx) (Γ:Env) (L:Own) (x:Operand) (e:TE):Prop:=∀ z fr h,StZ C Γ L z fr h->e.ok h.st (fr.op x)
inductive zm4 (C:Ctx) (Γ:Env) (L:Own):List Operand->List TE->Prop where
 | n:zm4 C Γ L [] []
 | c {x:Operand} {e:TE} {xs:List Operand} {es:List TE} (h:zxf C Γ L x e) (r:zm4 C Γ L xs es):zm4 C Γ L (x::xs) (e::es)
theorem zm4.ok {xs:List Operand} {es:List TE} (q:zm4 C Γ L xs es) (s:StZ C Γ L z fr h):zA h.st es (xs.map fr.op):=by
 induction q with
 | n=>simp [zA]
 | c h _ ih=>simp only [zA,List.map]; exact ⟨_,_,rfl,h _ _ _ s,ih⟩
def zyy (C:Ctx) (Γ:Env) (L:Own) (e e':TE):Prop:=∀ z fr h a,StZ C Γ L z fr h->e.ok z a->e'.ok h.st a
inductive zq4 (C:Ctx) (Γ:Env) (L:Own):List TE->List TE->Prop where
 | n:zq4 C Γ L [] []
 | c {e e':TE} {es es':List TE} (h:zyy C Γ L e e') (r:zq4 C Γ L es es'):zq4 C Γ L (e::es) (e'::es')
theorem zq4.ok {es es':List TE} (q:zq4 C Γ L es es') (s:StZ C Γ L z fr h):∀ {vs:List ze},zA z es vs->zA h.st es' vs:=by
 induction q with
 | n=>intro vs h; simpa [zA] using h
 | c h _ ih=>
  intro vs hv;simp only [zA] at hv ⊢;obtain ⟨v,vs',rfl,h1,h2⟩:=hv;exact ⟨v,vs',rfl,h _ _ _ _ s h1,ih h2⟩
end
end Go.Ai.Sx
/- Maps from numbers that are owned. -/
namespace Go.Ai.Sx
def mget {A B:Type} [DecidableEq A]:List (A×B)->A->Option B
 | [],_=>none
 | (k,v)::es,x=>if x=k then some v else mget es x
def mset {A B:Type} [DecidableEq A]:List (A×B)->A->B->List (A×B)
 | [],x,v=>[(x,v)]
 | (k,w)::es,x,v=>if x=k then (x,v)::es else (k,w)::mset es x v
structure zs1 (T:Tab) (kt:TypeId) {A:Type} [DecidableEq A] (Q:Rep A):Prop where
 plain:∀ z v x,TV Q z v x->zgo T kt v=true
 eq:∀ z z' v v' x y,TV Q z v x->TV Q z' v' y->akey v v'=some (decide (x=y))
structure KF (T:Tab) (fs:List Field) (i:Nat) {A:Type} [DecidableEq A] (R:Rep A):Prop where
 plain:∀ z cs x,R.rel z cs x->zfo T i fs cs=true
 eq:∀ z z' cs ds x y,R.rel z cs x->R.rel z' ds y->akeys cs ds=some (decide (x=y))
theorem zq5 {A:Type} {R:Rep A} {z:Store} {v:ze} {x:A} (h:TV R z v x) (ha:R.agg=true):∃ cs,v=.agg cs/\R.rel z cs x:=by
 have h1:=h.rel;have h2:=h.agg;rw [ha] at h2;cases v<;>first | exact ⟨_,rfl,h1⟩ | cases h2
theorem zuh {T:Tab} {i:Nat}:KF T [] i zce:=by
 refine ⟨λz cs x h=>?_,λz z' cs ds x y h h'=>?_⟩
 . have:cs=[]:=h;rw [this]; rfl
 . have e1:cs=[]:=h;have e2:ds=[]:=h';rw [e1,e2]; simp [akeys]
theorem zkb {A B:Type} [DecidableEq A] [DecidableEq B] (x y:A×B):decide (x=y)=(decide (x.1=y.1)&&decide (x.2=y.2)):=by
 rcases x with ⟨a,b⟩;rcases y with ⟨c,d⟩;simp only [Prod.mk.injEq,Bool.decide_and]
theorem zui {T : Tab} {f : Field} {fs : List Field} {i : Nat} {k : IntKind} {B : Type} [DecidableEq B] {S : Rep B} (hn : (f.name != "_") = true) (ho : Nat.beq f.offset i = true) (hu : T.und f.type = some (.int k)) (r : KF T fs (i + 1) S) : KF T (f :: fs) i (zz (zh k) S) := by
 refine ⟨fun z cs x h=>?_,fun z z' cs ds x y h h'=>?_⟩
 ·obtain ⟨c1,c2,rfl,⟨rfl,_⟩,h2⟩:=h;simp [zfo,hn,ho,zhT,hu,r.plain z c2 _ h2]
 ·obtain ⟨c1,c2,rfl,⟨rfl,_⟩,h2⟩:=h;obtain ⟨d1,d2,rfl,⟨rfl,_⟩,h2'⟩:=h';rw [zkb];simp only [List.cons_append,List.nil_append,akeys,zhq,if_true,r.eq z z' _ _ _ _ h2 h2'];by_cases e:x.1=y.1
  ·rw [e]; simp
  ·rw [(by simpa using e:(x.1==y.1)=false)]; simp [e]
theorem zq6 {T : Tab} {f : Field} {fs : List Field} {i : Nat} {B : Type} [DecidableEq B] {S : Rep B} (hn : (f.name != "_") = true) (ho : Nat.beq f.offset i = true) (hu : T.und f.type = some .bool) (r : KF T fs (i + 1) S) : KF T (f :: fs) i (zz zu S) := by
 refine ⟨fun z cs x h=>?_,fun z z' cs ds x y h h'=>?_⟩
 ·obtain ⟨c1,c2,rfl,h1,h2⟩:=h;have h1:c1=[.bool x.1]:=h1;subst h1;simp [zfo,hn,ho,zhT,hu,r.plain z c2 _ h2]
 ·obtain ⟨c1,c2,rfl,h1,h2⟩:=h;obtain ⟨d1,d2,rfl,h1',h2'⟩:=h';have h1:c1=[.bool x.1]:=h1;have h1':d1=[.bool y.1]:=h1';subst h1 h1';rw [zkb];simp only [List.cons_append,List.nil_append,akeys,zhq,r.eq z z' _ _ _ _ h2 h2'];by_cases e:x.1=y.1
  ·rw [e]; simp
  ·rw [(by simpa using e:(x.1==y.1)=false)]; simp [e]
theorem zu6 {T:Tab} {kt:TypeId} {k:IntKind} (hu:T.und kt=some (.int k)):zs1 T kt (zh k):=by
 refine ⟨λz v x h=>?_,λz z' v v' x y h h'=>?_⟩
 . rw [zoL h]; simp [zgo,hu]
 . rw [zoL h,zoL h'];simp only [akey,zhq,if_true];by_cases e:x=y
   . rw [e]; simp
   . rw [(by simpa using e:(x==y)=false)]; simp [e]
theorem zuj {T:Tab} {kt:TypeId} {fs:Array Field} {A:Type} [DecidableEq A] {R:Rep A} (hu:T.und kt=some (.struct fs)) (hs:(!((T.types.get kt).map (·.stood)).getD true)=true) (ha:R.agg=true) (r:KF T fs.toList 0 R):zs1 T kt R:=by
 refine ⟨λz v x h=>?_,λz z' v v' x y h h'=>?_⟩
 . obtain ⟨cs,rfl,h1⟩:=zq5 h ha;simp [zgo,hu,r.plain z cs x h1] at hs ⊢;exact hs
 . obtain ⟨cs,rfl,h1⟩:=zq5 h ha;obtain ⟨ds,rfl,h2⟩:=zq5 h' ha;exact r.eq z z' cs ds x y h1 h2
section
variable {A B:Type} [DecidableEq A]
def ziH {A B:Type} (Q:Rep A) (R:Rep B) (z:Store) (l:List (ze×ze)) (es:List (A×B)):Prop:=
 l.length=es.length/\∀ (i:Nat) (p:ze×ze) (q:A×B),l[i]?=some p->es[i]?=some q->TV Q z p.1 q.1/\TV R z p.2 q.2
theorem zgc {A B:Type} {Q:Rep A} {R:Rep B} {z:Store} {p:ze×ze} {l:List (ze×ze)} {q:A×B} {es:List (A×B)}:ziH Q R z (p::l) (q::es)↔(TV Q z p.1 q.1/\TV R z p.2 q.2)/\ziH Q R z l es:=by
 constructor
 . rintro ⟨h1,h2⟩
   refine ⟨h2 0 p q rfl rfl,by simpa using h1,λi p' q' hp hq=>h2 (i+1) p' q' (by simpa using hp) (by simpa using hq)⟩
 . rintro ⟨h1,h2,h3⟩
   refine ⟨by simp [h2],λi p' q' hp hq=>?_⟩;cases i with
   | zero=>simp at hp hq; subst hp hq; exact h1
   | succ i=>exact h3 i p' q' (by simpa using hp) (by simpa using hq)
theorem ziH.mono {A B:Type} {Q:Rep A} {R:Rep B} {z z':Store} {l:List (ze×ze)} {es:List (A×B)} (e:z.le z') (h:ziH Q R z l es):ziH Q R z' l es:=
 ⟨h.1,λi p q hp hq=>⟨(h.2 i p q hp hq).1.mono e,(h.2 i p q hp hq).2.mono e⟩⟩
theorem zkc {T:Tab} {kt:TypeId} {Q:Rep A} {R:Rep B} {z:Store} {kv:ze} {x:A} (hQ:zs1 T kt Q) (hkv:TV Q z kv x):∀ {l:List (ze×ze)} {es:List (A×B)} {n:Nat},ziH Q R z l es ->
    (mget es x=none/\afind kv l n=some none/\∀ (v:ze) (w:B),TV R z v w->ziH Q R z (l++[(kv,v)]) (mset es x w)) \/
    (∃ i v y,mget es x=some y/\afind kv l n=some (some (n+i,v))/\TV R z v y/\∀ (v:ze) (w:B),TV R z v w->ziH Q R z (l.set i (kv,v)) (mset es x w))
  | [],[],n,h=>.inl ⟨rfl,rfl,λv w hw=>zgc.2 ⟨⟨hkv,hw⟩,h⟩⟩
  | [],_::_,_,h=>by have:=h.1; simp at this
  | _::_,[],_,h=>by have:=h.1; simp at this
  | (pk,pv)::l,(qk,qv)::es,n,h=>by
    obtain ⟨⟨h1,h2⟩,h3⟩:=zgc.1 h;have ek:=hQ.eq z z kv pk x qk hkv h1;by_cases e:x=qk
    · subst e;rw [decide_eq_true rfl] at ek;right;refine ⟨0,pv,qv,by simp [mget],by simp [afind,ek],h2,λv w hw=>?_⟩;simp only [List.set_cons_zero,mset,if_true];exact zgc.2 ⟨⟨hkv,hw⟩,h3⟩
    · rw [decide_eq_false e] at ek;rcases zkc (n:=n+1) hQ hkv h3 with ⟨a1,a2,a3⟩ | ⟨i,v,y,a1,a2,a3,a4⟩
      · left;refine ⟨by simp [mget,e,a1],by simp [afind,ek,a2],λv w hw=>?_⟩;simp only [mset,if_neg e,List.cons_append];exact zgc.2 ⟨⟨h1,h2⟩,a3 v w hw⟩
      · right;refine ⟨i+1,v,y,by simp [mget,e,a1],by simp only [afind,ek,a2]; congr 3; omega,a3,λv w hw=>?_⟩;simp only [mset,if_neg e,List.set_cons_succ];exact zgc.2 ⟨⟨h1,h2⟩,a4 v w hw⟩
end
structure Mp (T:Tab) (mt:TypeId) {A:Type} [DecidableEq A] (Q:Rep A) (et:TypeId):Prop where
 und:∃ kt,T.und mt=some (.map kt et)/\zs1 T kt Q
def zp8 {A B:Type} (Q:Rep A) (R:Rep B):Rep (List (A×B)):=
 ⟨1,false,λz cs es=>∃ v,cs=[v]/\((v=.nilmap/\es=[])\/∃ b l,v=.map b/\z b=some (.mp l)/\ziH Q R z l es),λ_ _ _ h=>by obtain ⟨v,h,_⟩:=h; rw [h]; rfl,
  λ_ _ _ _ e h=>let ⟨v,h1,h2⟩:=h; ⟨v,h1,h2.imp id λ⟨b,l,g1,g2,g3⟩=>⟨b,l,g1,e _ _ g2,g3.mono e⟩⟩,
  λ_=>rfl,λ_ _ _ h=>by
   obtain ⟨v,h,r⟩:=h;rw [h];rcases r with ⟨rfl,_⟩ | ⟨b,l,rfl,_⟩<;>rfl⟩
theorem zuk {A B:Type} {Q:Rep A} {R:Rep B} {z:Store} {v:ze} {es:List (A×B)} (h:TV (zp8 Q R) z v es):(v=.nilmap/\es=[])\/∃ b l,v=.map b/\z b=some (.mp l)/\ziH Q R z l es:=by
 have h1:=h.rel;have h2:=h.agg;obtain ⟨v',q,r⟩:=h1;have:v=v':=by
  cases v<;>simp_all [ze.cells,zp8,ze.isAgg]
 subst this;exact r
theorem zq7 {A B:Type} {Q:Rep A} {R:Rep B} {z:Store} {b:Nat} {l:List (ze×ze)} {es:List (A×B)} (h:z b=some (.mp l)) (r:ziH Q R z l es):TV (zp8 Q R) z (.map b) es:=⟨⟨_,rfl,.inr ⟨b,l,rfl,h,r⟩⟩,rfl⟩
section
variable {A:Type} [DecidableEq A]
variable {C:Ctx} {T:Tab} {d:Option (List Nat)} {ops rest:List Oper} {Γ:Env} {L:Own} {Q:zi->za->Prop} {P:zaH->zi->za->Prop} {o:Oper} {t:Nat} {z:Store} {fr:zi} {h:za}
theorem zn7 {B:Type} {K:Rep A} (R:Rep B) {mt et:TypeId} {r:Option Operand} (hm:Mp T mt K et) (hr:r=none) (hw:Want ops Γ true o.guard) (ho:o.op=.makeMap mt r) (hd:o.dst=some t)
 (go:∀ b,zm C T d ops rest ((t,.raw (.map b))::Γ) ((.map b,.mp K R [])::L) Q):zm C T d ops (o::rest) Γ L Q:=by
 subst hr;obtain ⟨kt,h1,h2⟩:=hm.und;have hno:zcY o.op=true:=by rw [ho]; rfl
 refine zfa hw (nf hno) λz fr h s=>?_;refine ⟨.map h.next,h.push (.mp []),z,_,_,by rw [ho]; simp only [aop,zeH,h1],nfo hno,.refl _, ?_,go h.next⟩;rw [hd,zaL];refine (s.pushOwn (.mp []) (v:=.map h.next) (ob:=.mp K R []) rfl ?_).set (by simp only [TE.ok]);simp only [Obj.ok];exact ⟨h.next,[],rfl,by rw [za.get_push,if_pos rfl],rfl,by simp⟩
theorem zhk {B:Type} {K:Rep A} {R:Rep B} {mt et:TypeId} {m x y:Operand} {b:Nat} {es:List (A×B)} {i:A} {w:B} (kk:Nat) (hm:Mp T mt K et) (ho:o.op=.mapUpdate mt m x y\/o.op=.insert mt m x y) (hk:L[kk]?=some (.map b,.mp K R es)) (hw:Want ops Γ true o.guard) (hd:o.dst=none)
 (hmx:Opd Γ m (.raw (.map b))) (hx:Opd Γ x (.val K i)) (hy:Opd Γ y (.val R w)) {L':Own} (hL:zfw L kk (.map b,.mp K R (mset es i w))=some L') (r:zm C T d ops rest Γ L' Q):zm C T d ops (o::rest) Γ L Q:=by
 obtain ⟨kt,h1,h2⟩:=hm.und;have hft:∀ fr:zi,foot fr.op o=⟨[],false,zL (fr.op m),false⟩:=λfr=>by
  rcases ho with ho | ho<;>(unfold foot; rw [ho])
 have hop:∀ (fr:zi) (h:za),aop T fr.op h o.op=zgp (zbk T mt (fr.op m) (fr.op x) (fr.op y) h):=λfr h=>by
  rcases ho with ho | ho<;>rw [ho]<;>rfl
 refine zi4 (.w (by rcases ho with ho | ho<;>rw [ho]<;>rfl) (λt a q=>by rcases ho with ho | ho<;>(rw [ho] at q; cases q)) (by rcases ho with ho | ho<;>rw [ho]<;>rfl) (λq=>by rcases ho with ho | ho<;>(rw [ho] at q; cases q))) (λz fr h s=>by
  rw [hft];exact ⟨λb hb=>(nomatch hb),λb' hb=>zfc s hk rfl b' (by simpa [zL,hmx.raw s.fr] using hb)⟩) hw hd (λz fr h s=>?_) r
 have hob:=s.own.ok _ (List.mem_of_getElem? hk);simp only [Obj.ok] at hob;obtain ⟨b',l,e,g1,g2,g3⟩:=hob;cases e;have hpk:=h2.plain z _ i (hx.val s.fr);rcases zkc (n:=0) (l:=l) (es:=es) (R:=R) h2 (hx.val s.fr) ⟨g2,g3⟩ with ⟨a1,a2,a3⟩ | ⟨j,v,y',a1,a2,a3,a4⟩
 . obtain ⟨k1,k2⟩:=a3 _ w (hy.val s.fr);refine ⟨.tuple [],h.set b (.mp (l++[(fr.op x,fr.op y)])), ?_,s.upd hk rfl rfl _ ?_ hL⟩
   . rw [hop,hmx.raw s.fr];simp only [zbk,h1,hpk,if_true,g1,a2];rfl
   . simp only [Obj.ok];exact ⟨b,_,rfl,by rw [za.get_set,if_pos rfl],k1,k2⟩
 . obtain ⟨k1,k2⟩:=a4 _ w (hy.val s.fr);refine ⟨.tuple [],h.set b (.mp (l.set j (fr.op x,fr.op y))), ?_,s.upd hk rfl rfl _ ?_ hL⟩
   . rw [hop,hmx.raw s.fr];simp only [zbk,h1,hpk,if_true,g1,a2];rw [Nat.zero_add]; rfl
   . simp only [Obj.ok];exact ⟨b,_,rfl,by rw [za.get_set,if_pos rfl],k1,k2⟩
theorem zlX {B:Type} {K:Rep A} {R:Rep B} {mt et:TypeId} {m kv:ze} {l:List (ze×ze)} {es:List (A×B)} {i:A} {w0:B} (hm:Mp T mt K et) (hz:Zr T et R w0) (hkv:TV K z kv i) (hr:ziH K R z l es)
 (hg:(m=.nilmap/\l=[])\/∃ b,m=.map b/\h.get b=some (.mp l)) (ok:Bool) :
 ∃ v,alookup T mt m kv ok h=some (if ok then .tuple [v,.bool (mget es i).isSome] else v)/\TV R z v ((mget es i).getD w0):=by
 obtain ⟨kt,h1,h2⟩:=hm.und;have hpk:=h2.plain z _ i hkv;obtain ⟨zv,z1,z2⟩:=hz.zero;rcases hg with ⟨rfl,rfl⟩ | ⟨b,rfl,g⟩
 . have:es=[]:=List.eq_nil_of_length_eq_zero hr.1.symm;subst this;refine ⟨zv, ?_,by simp only [mget,Option.getD_none]; exact z2 z⟩;simp only [alookup,h1,hpk,if_true,afind,z1,mget];cases ok<;>rfl
 . rcases zkc (n:=0) h2 hkv hr with ⟨a1,a2,_⟩ | ⟨j,v,y',a1,a2,a3,_⟩
   . refine ⟨zv, ?_,by rw [a1]; exact z2 z⟩;simp only [alookup,h1,hpk,if_true,g,a2,z1,a1];cases ok<;>rfl
   . refine ⟨v, ?_,by rw [a1]; exact a3⟩;simp only [alookup,h1,hpk,if_true,g,a2,a1];cases ok<;>rfl
theorem zoS {B:Type} {K:Rep A} {R:Rep B} {mt et:TypeId} {b:Nat} {es:List (A×B)} {kv:ze} {i:A} {w0:B} {kk:Nat} (hm:Mp T mt K et) (hz:Zr T et R w0) (hk:L[kk]?=some (.map b,.mp K R es)) (hkv:TV K z kv i) (ok:Bool) (s:StZ C Γ L z fr h) :
 ∃ v,alookup T mt (.map b) kv ok h=some (if ok then .tuple [v,.bool (mget es i).isSome] else v)/\TV R z v ((mget es i).getD w0):=by
 have hob:=s.own.ok _ (List.mem_of_getElem? hk);simp only [Obj.ok] at hob;obtain ⟨b',l,e,g1,g2,g3⟩:=hob;cases e;exact zlX hm hz hkv ⟨g2,g3⟩ (.inr ⟨b,rfl,g1⟩) ok
theorem zxg {B:Type} {K:Rep A} {R:Rep B} {mt et:TypeId} {m x:Operand} {b:Nat} {es:List (A×B)} {i:A} {w0:B} (kk:Nat) (hls:d=none) (hm:Mp T mt K et) (hz:Zr T et R w0) (hk:L[kk]?=some (.map b,.mp K R es)) (hw:Want ops Γ true o.guard) (ho:o.op=.lookup mt m x false) (hd:o.dst=some t)
 (hmx:Opd Γ m (.raw (.map b))) (hx:Opd Γ x (.val K i)) (r:zm C T d ops rest ((t,.val R ((mget es i).getD w0))::Γ) L Q):zm C T d ops (o::rest) Γ L Q:=by
 subst hls;intro fr h ⟨z,s⟩;obtain ⟨v,e1,e2⟩:=zoS hm hz hk (hx.val s.fr) false s;have ha:aop T fr.op h o.op=some (.val v h):=by
  rw [ho]; simp only [aop,hmx.raw s.fr,e1,zW,Option.map,Bool.false_eq_true,if_false]
 simp only [wX,hw.ok s.fr,ha,hd,zaL];exact r _ _ ⟨z,s.set (by simp only [TE.ok]; exact e2)⟩
theorem zjt {B:Type} {K:Rep A} {R:Rep B} {mt et:TypeId} {m x:Operand} {b:Nat} {es:List (A×B)} {i:A} {w0:B} (kk:Nat) (hls:d=none) (hm:Mp T mt K et) (hz:Zr T et R w0) (hk:L[kk]?=some (.map b,.mp K R es)) (hw:Want ops Γ true o.guard) (ho:o.op=.lookup mt m x true) (hd:o.dst=some t)
 (hmx:Opd Γ m (.raw (.map b))) (hx:Opd Γ x (.val K i)) (r:zm C T d ops rest ((t,.tup [.val R ((mget es i).getD w0),.val zu (mget es i).isSome])::Γ) L Q):zm C T d ops (o::rest) Γ L Q:=by
 subst hls;intro fr h ⟨z,s⟩;obtain ⟨v,e1,e2⟩:=zoS hm hz hk (hx.val s.fr) true s;have ha:aop T fr.op h o.op=some (.val (.tuple [v,.bool (mget es i).isSome]) h):=by
  rw [ho]; simp only [aop,hmx.raw s.fr,e1,zW,Option.map,if_true]
 simp only [wX,hw.ok s.fr,ha,hd,zaL];refine r _ _ ⟨z,s.set ?_⟩;simp only [TE.ok];refine ⟨_,rfl, ?_⟩;simp only [zA,TE.ok];exact ⟨_,_,rfl,e2,_,_,rfl,zcs,rfl⟩
theorem zm5 (ev:Operand->ze) {mt:TypeId} {m x:Operand} {ok:Bool} (ho:o.op=.lookup mt m x ok):foot ev o=⟨zL (ev m),false,[],false⟩:=by unfold foot; rw [ho]
theorem lookq {B:Type} {K:Rep A} {R:Rep B} {mt et:TypeId} {m x:Operand} {es:List (A×B)} {i:A} {w0:B} {ok:Bool} (hm:Mp T mt K et) (hz:Zr T et R w0) (ho:o.op=.lookup mt m x ok)
 (hmx:Opd Γ m (.val (zp8 K R) es)) (hx:Opd Γ x (.val K i)) :
 Rd C d ops rest Γ L o/\(∀ z fr h,StZ C Γ L z fr h->zi3 z h (foot fr.op o))/\∀ z fr h,StZ C Γ L z fr h->∃ v,aop T fr.op h o.op=some (.val (if ok then .tuple [v,.bool (mget es i).isSome] else v) h)/\TV R z v ((mget es i).getD w0):=by
 have key:∀ z fr h,StZ C Γ L z fr h->∀ b,b∈zL (fr.op m)->z b≠none/\b<h.next:=by
  intro z fr h s b hb;rcases zuk (hmx.val s.fr) with ⟨q,_⟩ | ⟨c,l,q,q2,_⟩
  . rw [q] at hb; cases hb
  . rw [q] at hb;have:b=c:=by simpa [zL] using hb
    subst this;exact ⟨by rw [q2]; exact λe=>(nomatch e),(s.sub _ _ q2).2⟩
 refine ⟨.f λz fr h s=>?_,λz fr h s=>?_,λz fr h s=>?_⟩
 . rw [zm5 _ ho];exact ⟨rfl,rfl,λb hb=>(key z fr h s b hb).1,λq=>by rw [ho] at q; cases q⟩
 . rw [zm5 _ ho];exact ⟨λb hb=>(key z fr h s b hb).2,λb hb=>(nomatch hb)⟩
 . rcases zuk (hmx.val s.fr) with ⟨q,rfl⟩ | ⟨c,l,q,q2,q3⟩
   . obtain ⟨v,e1,e2⟩:=zlX (h:=h) (m:=fr.op m) hm hz (hx.val s.fr) (l:=[]) (es:=([]:List (A×B))) ⟨rfl,λi p q hp=>by simp at hp⟩ (.inl ⟨q,rfl⟩) ok;exact ⟨v,by rw [ho]; simp only [aop,e1,zW,Option.map],e2⟩
   . obtain ⟨v,e1,e2⟩:=zlX (h:=h) (m:=fr.op m) hm hz (hx.val s.fr) q3 (.inr ⟨c,q,(s.sub _ _ q2).1⟩) ok;exact ⟨v,by rw [ho]; simp only [aop,e1,zW,Option.map],e2⟩
theorem zu7 {B:Type} {K:Rep A} {R:Rep B} {mt et:TypeId} {m x:Operand} {es:List (A×B)} {i:A} {w0:B} (hm:Mp T mt K et) (hz:Zr T et R w0) (hw:Want ops Γ true o.guard) (ho:o.op=.lookup mt m x false) (hd:o.dst=some t)
 (hmx:Opd Γ m (.val (zp8 K R) es)) (hx:Opd Γ x (.val K i)) (r:zm C T d ops rest ((t,.val R ((mget es i).getD w0))::Γ) L Q):zm C T d ops (o::rest) Γ L Q:=by
 obtain ⟨q1,q2,q3⟩:=lookq (C:=C) (d:=d) (ops:=ops) (rest:=rest) (L:=L) hm hz ho hmx hx;refine zfu q1 q2 hw hd (λz fr h s=>?_) r;obtain ⟨v,e1,e2⟩:=q3 z fr h s;exact ⟨v,by simpa using e1,by simp only [TE.ok]; exact e2⟩
theorem StZ.freezem {A B:Type} {K:Rep A} {R:Rep B} {es:List (A×B)} {b:Nat} (s:StZ C Γ L z fr h) {k:Nat} {L':Own} (hk:L[k]?=some (.map b,.mp K R es)) (hL:zdU L k=some L'):∃ z',z.le z'/\StZ C Γ L' z' fr h/\TV (zp8 K R) z' (.map b) es:=by
 have ho:=s.own.ok _ (List.mem_of_getElem? hk);simp only [Obj.ok] at ho;obtain ⟨b',l,e,h2,h3,h5⟩:=ho;cases e;obtain ⟨o1,o2,o3⟩:=s.own.out _ (List.mem_of_getElem? hk) b (by simp [zeK,zh4]);have hle:z.le (z.add b (.mp l)):=zib o1;have s':=s.drop hL;have hne:∀ p∈L',∀ c,c∈zeK p->c≠b:=by
  intro p hp c hc e;subst e;rw [zia hL] at hp;obtain ⟨j,hj,hjp⟩:=List.getElem_of_mem hp;have hj':(L.eraseIdx k)[j]?=some p:=by rw [← hjp]; exact List.getElem?_eq_getElem _
  rw [List.getElem?_eraseIdx] at hj';split at hj'
  . have:=zdm s.own.nodup hj' hk hc (by simp [zeK,zh4]); omega
  . have:=zdm s.own.nodup hj' hk hc (by simp [zeK,zh4]); omega
 refine ⟨z.add b (.mp l),hle,{ zle:=s.zle.trans hle,sub:=?_,old:=?_,fr:=s.fr.mono hle,own:=⟨λp hp=>Obj.ok_mono hle (λ_ _=>rfl) (s'.own.ok p hp),λp hp c hc=>?_,s'.own.nodup⟩,chg:=s.chg }, ?_⟩
 . intro c y hc;by_cases e:c=b
   . subst e; rw [zgU] at hc; cases hc; exact ⟨h2,o2⟩
   . rw [add_ne e] at hc; exact s.sub c y hc
 . intro c hc hB;rw [add_ne]
   . exact s.old c hc hB
   . intro e; subst e;rcases o3 with q | q
     . omega
     . exact hB q
 . obtain ⟨q1,q2,q3⟩:=s'.own.out p hp c hc;exact ⟨by rw [add_ne (hne p hp c hc)]; exact q1,q2,q3⟩
 . exact zq7 zgU (ziH.mono hle ⟨h3,h5⟩)
theorem zq8 {b n:Nat} (hl:look Γ n=some (.raw (.map b))):∀ z fr h,StZ C Γ L z fr h->∃ z',z.le z'/\StZ C ((n,.val zpI (.map b))::Γ) L z' fr h:=λz fr h s=>by
 have h1:=s.fr _ _ hl;simp only [TE.ok] at h1;exact ⟨z,.refl _,{ s with fr:=zlV s.fr (by simp only [TE.ok]; rw [h1]; exact ⟨⟨rfl,rfl,rfl⟩,rfl⟩) }⟩
theorem zs2 {v:ze}:∀ z c,(TE.val zpI v).ok z c->(TE.raw v).ok z c:=λz c h=>by
 simp only [TE.ok] at h ⊢;exact zuf h
def ze2 {A:Type} (R:Rep A):Rep (Option A):=
 ⟨1,false,λz cs x=>(x=none/\cs=[.nilptr])\/∃ a,x=some a/\(zS R).rel z cs a,λz cs x q=>by
  rcases q with ⟨_,rfl⟩ | ⟨a,_,q⟩
  . rfl
  . exact (zS R).len z cs a q,
  λz z' cs x e q=>q.imp id λ⟨a,h1,h2⟩=>⟨a,h1,(zS R).mono z z' cs a e h2⟩,λ_=>rfl,λz cs x q=>by
   rcases q with ⟨_,rfl⟩ | ⟨a,_,q⟩
   . rfl
   . exact (zS R).ones z cs a q⟩
theorem zb4 {A:Type} {R:Rep A}:(TE.val (ze2 R) none).ok z .nilptr:=by
 simp only [TE.ok];exact ⟨.inl ⟨rfl,rfl⟩,rfl⟩
theorem zkd {A:Type} {R:Rep A} {a:A} {n:Nat} (hl:look Γ n=some (.val (zS R) a)):∀ z fr h,StZ C Γ L z fr h->∃ z',z.le z'/\StZ C ((n,.val (ze2 R) (some a))::Γ) L z' fr h:=λz fr h s=>by
 have h1:=s.fr _ _ hl;simp only [TE.ok] at h1;exact ⟨z,.refl _,{ s with fr:=zlV s.fr (by simp only [TE.ok]; exact ⟨.inr ⟨a,rfl,h1.rel⟩,h1.agg⟩) }⟩
theorem zct {A:Type} {R:Rep A} {x:Option A} {a:A} {n:Nat} (hx:x=some a) (hl:look Γ n=some (.val (ze2 R) x)):∀ z fr h,StZ C Γ L z fr h->∃ z',z.le z'/\StZ C ((n,.val (zS R) a)::Γ) L z' fr h:=λz fr h s=>by
 have h1:=s.fr _ _ hl;simp only [TE.ok] at h1;subst hx;exact ⟨z,.refl _,{ s with fr:=zlV s.fr (by
  simp only [TE.ok];rcases h1.rel with ⟨q,_⟩ | ⟨b,q,h2⟩
  . cases q
  . cases q; exact ⟨h2,h1.agg⟩) }⟩
end
end Go.Ai.Sx
/- Plain functions that printed texts use. -/
namespace Go.Ai.Sx
abbrev w64 (n:Int):Int:=IntKind.i64.wrap n
abbrev zyz (k:IntKind) (a b:Int):Int:=k.wrap ((BitVec.ofInt k.bits a &&& BitVec.ofInt k.bits b).toNat)
abbrev bOr (k:IntKind) (a b:Int):Int:=k.wrap ((BitVec.ofInt k.bits a ||| BitVec.ofInt k.bits b).toNat)
abbrev zbI (k:IntKind) (a b:Int):Int:=k.wrap ((BitVec.ofInt k.bits a &&& ~~~ (BitVec.ofInt k.bits b)).toNat)
theorem okn {z:Store}:zA z [] []:=by simp only [zA]
theorem okint {z:Store} {k:IntKind} {es:List TE} {vs:List ze} (h:zA z es vs):zA z (.val (zh k) 0::es) (.int k 0::vs):=by
 simp only [zA,TE.ok];exact ⟨_,_,rfl,zbD (by cases k<;>decide) (by cases k<;>decide),h⟩
theorem okbool {z:Store} {es:List TE} {vs:List ze} (h:zA z es vs):zA z (.val zu false::es) (.bool false::vs):=by
 simp only [zA,TE.ok];exact ⟨_,_,rfl,zcs,h⟩
theorem oknil {A:Type} {R:Rep A} {z:Store} {es:List TE} {vs:List ze} (h:zA z es vs):zA z (.val (zd R) []::es) (.nilslice::vs):=by
 simp only [zA,TE.ok];exact ⟨_,_,rfl,zbR ziD,h⟩
theorem okraw {z:Store} {v:ze} {es:List TE} {vs:List ze} (h:zA z es vs):zA z (.raw v::es) (v::vs):=by
 simp only [zA,TE.ok];exact ⟨_,_,rfl,rfl,h⟩
end Go.Ai.Sx
/- An abstract interpreter for the model's code: from a run of it to what a law's row says. -/
namespace Go.Ai
open Go.RowKit
structure zsd (A:Type) where
 rel:Store->List ze->A->Prop
 mono:∀ z z' as x,z.le z'->rel z as x->rel z' as x
def zyA:zsd Unit:=⟨λ_ as _=>as=[],λ_ _ _ _ _ h=>h⟩
def zq9 {A B:Type} (R:Rep A) (S:zsd B):zsd (A×B):=
 ⟨λh as x=>∃ a rest,as=a::rest/\TV R h a x.1/\S.rel h rest x.2,λ_ _ _ _ e h=>let ⟨a,rest,h1,h2,h3⟩:=h; ⟨a,rest,h1,h2.mono e,S.mono _ _ _ _ e h3⟩⟩
def flat (P:Program) (t:TypeId):Bool:=match P.underlying t with | some (.int _) | some .bool | some (.slice _) | some (.struct _)=>true | _=>false
def zm6 (P:Program) {A:Type} (ts:List TypeId) (S:zsd A):Prop:=
 ∀ (H:Type) (enc:TypeId×Value->H) (W:World) (base:Nat) (vs:List Value) (ds:List (DataW H)) (ps:List MemPlace),0<W.heap.size ->
  (∀ (j:Nat) t v,ts[j]?=some t->vs[j]?=some v->Value.okWide P W .any base t v)->DataW.TrodAll enc P W 0 (λ_=>true) true ts vs ds ps->∀ (ρ:Emb) (h:za),zeJ W.heap.size ρ h W->zmQ ρ h ->
   ∃ ρ' h' as x,Lay W ρ h ρ' h'/\zcm ρ' as vs/\S.rel h'.st as x
section
variable {P:Program}
theorem zpL:zm6 P [] zyA:=by
 intro H enc W base vs ds ps _ _ hd ρ h hr hn;obtain ⟨rfl,_⟩:=ChangeShapes.trodAll_nil hd;exact ⟨ρ,h,[],(),⟨.refl _,hr,hn,.refl _⟩,.nil _,rfl⟩
theorem zhI {A B:Type} {t:TypeId} {ts:List TypeId} {R:Rep A} {S:zsd B} (ho:Opens P t R) (hf:flat P t=true) (hs:zm6 P ts S):zm6 P (t::ts) (zq9 R S):=by
 intro H enc W base vs ds ps hpos hok hd ρ h hr hn;obtain ⟨v,vs',d,ds',p,q,rfl,rfl,rfl,h1,h2⟩:=ChangeShapes.trodAll_cons hd;obtain ⟨ρ1,h1',a,x,l1,r1,q1⟩:=zqG ho hpos (hok 0 t v rfl rfl) hf h1 hr hn;obtain ⟨ρ2,h2',as,y,l2,r2,q2⟩:=hs H enc W base vs' ds' q hpos (λj t' v' ht hv=>hok (j+1) t' v' (by simpa using ht) (by simpa using hv)) h2 ρ1 h1' l1.heap l1.none;exact ⟨ρ2,h2',a::as,(x,y),l1.trans l2,.cons (r1.mono l2.ext) r2,a,as,rfl,q1.mono l2.grow.st,q2⟩
theorem zig {H:Type} {enc:TypeId×Value->H} (hl:laidOutB P=true) {W W':World} (hb:Below W.heap.size W W'):∀ {ts:List TypeId} {vs:List Value} {ds:List (DataW H)} {ps:List MemPlace},(∀ t∈ts,P.readableRec t=true/\t<P.types.size) ->
    DataW.TrodAll enc P W 0 (λ_=>true) true ts vs ds ps->DataW.TrodAll enc P W' 0 (λb=>decide (b<W.heap.size)) true ts vs ds ps
  | [],[],[],_,_,h=>h
  | t::ts,v::vs,d::ds,ps,hts,⟨p,q,h1,h2,e⟩=>by
    refine ⟨p,q, ?_,zig hl hb (λt ht=>hts t (List.mem_cons_of_mem _ ht)) h2,e⟩;obtain ⟨hr,hrow⟩:=hts t (List.mem_cons_self ..);refine Below.trod hl hr hrow h1 hb ?_;have h3:DataW.TrodAll enc P W 0 (λ_=>true) true [t] [v] [d] p:=⟨p,[],h1,rfl,by simp⟩;exact DataW.TrodAll.lt h3
  | [],_::_,_,_,_,h=>h.elim
  | [],[],_::_,_,_,h=>h.elim
  | _::_,[],_,_,_,h=>h.elim
  | _::_,_::_,[],_,_,h=>h.elim
end
theorem zm7 {T:Tab} {C:Checked} (ok:T.Ok C.prog) {f:FuncId} {fn:Func} {s:ChangeSpec} {A:Type} {S:zsd A} {tb:TypeId}
 (hl:laidOutB C.prog=true) (hvars:s.vars=[]) (hrt:fn.resultTypes=#[tb]) (hb:C.prog.underlying tb=some .bool) (hts:∀ t∈fn.params.toList,C.prog.readableRec t=true/\t<C.prog.types.size)
 (hfn:∀ (H:Type) (ds:List (DataW H)),ds.length=fn.params.size->s.fn H ds={ results:=[.lit (.bool true)],args:=ds })
 (ho:zm6 C.prog fn.params.toList S)
 (law:∀ (h:za) (as:List ze) (x:A),S.rel h.st as x->h.wm<=h.next->∃ n h',zeq T (aexec T n) f as h=some (.ret (.bool true),h'))
 {H:Type} {enc:TypeId×Value->H} {W:World} {base:Nat} {args:Array Value} {ds gs:List (DataW H)} {before:List MemPlace} (hpos:0<W.heap.size)
 (hval:∀ (j:Nat) t v,fn.params[j]?=some t->args[j]?=some v->Value.okWide C.prog W .any base t v)
 (hW:DataW.Whole enc C.prog fn.params.toList s.vars false W args.toList ds gs before) :
 Calls C.prog f args W λe W'=>∃ v,e=.returned v/\s.post enc C.prog fn false true false false W args v W':=by
 have hW0:=hW;obtain ⟨p,q,hA,hV,rfl,_,_⟩:=hW;have hr0:zeJ W.heap.size (λ_=>none) ⟨.leaf,0,0⟩ W:=⟨⟨λ_ _ h=>(nomatch h),λ_ _ h=>(nomatch h),λ_ _ _ _ h=>(nomatch h),Nat.le_refl _⟩,λ_ _ h=>(nomatch h)⟩;obtain ⟨ρ,h,as,x,l,r,hx⟩:=ho H enc W base args.toList ds p hpos (λj t v ht hv=>hval j t v (by simpa using ht) (by simpa using hv)) hA _ _ hr0 (λ_ _ h=>(nomatch h));obtain ⟨n,h',hrun⟩:=law h as x hx (l.grow.wm (Nat.le_refl 0));refine (zlD ok hrun r l.heap).mono λe W' he=>?_;obtain ⟨ρ',hr',ht,hend⟩:=he;rcases hend with ⟨v,v',hv,rfl,hrel⟩ | ⟨v,v',hv,_⟩
 case inr=>cases hv
 cases hv;cases hrel;refine ⟨_,rfl, ?_⟩;have hbelow:Below W.heap.size W W':=⟨ht.os,ht.tape,ht.output,ht.size,λk hk=>ht.frame k hk (λb l' hb ho'=>absurd ho' (l.none b l' hb))⟩;have hgs:gs=[]/\q=[]:=by
  rw [hvars] at hV;cases gs with
  | nil=>exact ⟨rfl,hV⟩
  | cons _ _=>exact hV.elim
 obtain ⟨rfl,rfl⟩:=hgs;have hlen:=trodAll_length hA;have hres:s.fn H (ds++[])={ results:=[.lit (.bool true)],args:=ds }:=by rw [List.append_nil]; exact hfn H ds (by rw [hlen.2]; simp)
 refine ⟨ds,[],p++[],[],p,[],hW0, ?_, ?_, ?_,hbelow.frame _,λq=>by cases q⟩
 . rw [hres,hrt];exact ⟨[],[],RowKit.shut_bool hb true,rfl,rfl⟩
 . rw [hres]; exact zig hl hbelow hts hA
 . rw [hres,hvars]; exact rfl
end Go.Ai
/- From a walk through a law to what its row says. -/
namespace Go.Ai.Sx
def AOk {A:Type} (S:zsd A) (ts:A->List TE):Prop:=∀ z vs x,S.rel z vs x->zA z (ts x) vs
theorem zu8:AOk zyA (λ_=>[]):=λz vs x h=>by
 simp only [zA]; exact h
theorem zlY {A B:Type} {R:Rep A} {S:zsd B} {ts:B->List TE} (h:AOk S ts):AOk (zq9 R S) (λx=>.val R x.1::ts x.2):=λz vs x hr=>by
 obtain ⟨a,rest,rfl,h1,h2⟩:=hr;simp only [zA,TE.ok];exact ⟨a,rest,rfl,h1,h _ _ _ h2⟩
theorem zu9 {T:Tab} {g:FuncId} {A:Type} {S:zsd A} {ts:A->List TE} (ha:AOk S ts) (hf:∀ z vs x,S.rel z vs x->Fun T g (ts x) [.val zu true]):∀ (h:za) (as:List ze) (x:A),S.rel h.st as x->h.wm<=h.next->∃ n h',zeq T (aexec T n) g as h=some (.ret (.bool true),h'):=by
 intro h as x hr hwm;obtain ⟨n,r,h',e,us,z',rfl,hl,_,_,_,_,hok,_⟩:=hf _ _ x hr h.st h as (zoN h) hwm (ha _ _ _ hr)
 match us,hl with
 | [u],_=>
  simp only [tes,zA,TE.ok] at hok;obtain ⟨v,vs,q,h1,_⟩:=hok;cases q;have:=znY h1;subst this;exact ⟨n,h',e⟩
end Go.Ai.Sx
/- An abstract interpreter for the model's code: that a program's tables agree with it. -/
namespace Go.Ai
def Tr.toList {α:Type}:Tr α->List (Nat×α)
 | .leaf=>[]
 | .node v l r=>(match v with | some x=>[(0,x)] | none=>[])++(l.toList.map λp=>(2*p.1+1,p.2))++(r.toList.map λp=>(2*p.1+2,p.2))
theorem Tr.mem_toList {α:Type}:∀ (t:Tr α) (n:Nat) (x:α),t.get n=some x->(n,x)∈t.toList
 | .leaf,n,x,h=>by simp [Tr.get] at h
 | .node v l r,0,x,h=>by
  have h:v=some x:=h;subst h;simp [Tr.toList]
 | .node v l r,m+1,x,h=>by
  rw [Tr.get_succ] at h;simp only [Tr.toList,List.mem_append,List.mem_map];split at h
  . rename_i hm;exact .inl (.inr ⟨_,Tr.mem_toList l _ _ h,by simp; omega⟩)
  . exact .inr ⟨_,Tr.mem_toList r _ _ h,by simp; omega⟩
def zul {α:Type} (Q:Nat->α->Prop):List (Nat×α)->Prop
 | []=>True
 | p::l=>Q p.1 p.2/\zul Q l
theorem zul.get {α:Type} {Q:Nat->α->Prop}:∀ {l:List (Nat×α)},zul Q l->∀ n x,(n,x)∈l->Q n x
 | _::_,h,n,x,hm=>by
  rcases List.mem_cons.1 hm with q | q
  . cases q; exact h.1
  . exact zul.get h.2 n x q
def zm8 (P:Program) (t:Nat) (i:zqc):Prop:=
 P.underlying t=some i.desc/\∃ j,P.info? t=some j/\j.size=i.size/\j.bytes=i.bytes /\
  (∀ z,i.zero=some z->∃ zv,j.zero=some zv/\zhA zv=some z)/\(i.stood=false->P.stoodInHeld t=false)/\(i.eqg=false->P.eqGuardType P.depth t=false)
theorem zm9 {P:Program} {t:Nat} {j ju:TypeInfo} (h1:P.info? t=some j) (h2:P.underlying t=some ju.desc) :
 zm8 P t { desc:=ju.desc,size:=j.size,bytes:=j.bytes,zero:=j.zero.bind zhA,stood:=P.stoodInHeld t,eqg:=P.eqGuardType P.depth t }:=by
 refine ⟨h2,j,h1,rfl,rfl,λz hz=>?_,id,id⟩;exact Option.bind_eq_some_iff.1 hz
def zoT (P:Program) (f:Nat) (F:Func):Prop:=
 P.funcs[f]? = some F ∧ (F.name == "runtime.NumGoroutine") = false ∧ (∀ c, F.body = some c → zcQ F.ntmps c = true)
def zra (F:Func):Bool:=match F.body with | some c=>zcQ F.ntmps c | none=>true
theorem zrb {P : Program} {f : Nat} {F : Func} (h1 : P.funcs[f]? = some F) (h2 : (F.name == "runtime.NumGoroutine") = false) (h3 : zra F = true) : zoT P f F := by
 refine ⟨h1,h2,fun c hc=>?_⟩;unfold zra at h3;rw [hc] at h3;exact h3
theorem zs3 {P:Program} {T:Tab} (h1:zul (zm8 P) T.types.toList) (h2:zul (zoT P) T.funcs.toList) (h3:P.follows .mixedOrders=true) (h4:T.consts=.leaf):T.Ok P:=
 ⟨λt i h=>h1.get t i (Tr.mem_toList _ _ _ h),λf F h=>h2.get f F (Tr.mem_toList _ _ _ h),h3,λg v h=>by rw [h4] at h; cases h⟩
end Go.Ai