/- An abstract interpreter for the model's code: the interpreter as a whole. -/
import Derived.Test.YtnngmijajnldlaaGreatX1
import Derived.Orders
set_option linter.unusedSimpArgs false
set_option linter.unusedVariables false
set_option linter.unusedSectionVars false
noncomputable section
open Option renaming some→Ob,none→Oe
open Bool renaming false→Oc,true→Od
open Option renaming bind->Zb,bind_some->Zs
namespace Go.Ai
def Keeps (h h':za):Prop:=h.next<=h'.next/\h'.wm<=h.wm/\∀ b,b<h.next->b<h'.wm->h'.get b=h.get b
def zfA (call:Caller):Prop:=∀ f args h r h',call f args h=Ob (r,h')->Keeps h h'
def zjG (run:Runner):Prop:=∀ c fr h e fr' h',run c fr h=Ob (e,fr',h')->Keeps h h'
section
variable {T:Tab} {P:Program} (ok:T.Ok P) {base:Nat}
def zvW (T:Tab) (P:Program) (base:Nat):Prop:=
 ∀ (call:Caller),zlA P base call->zfA call->∀ (ops:Array Oper) (n:Nat),zrA n ops->zhN ops.toList 0=Od->ziK ops.toList ops.toList 0=Od ->
  ∀ (fr:zi) (h:za) (fr':zi) (h':za),adraw T call ops.toList ops.toList 0 [] fr h=Ob (fr',h') ->
   ∀ (G:Emb) (w:World) (ds:List Deferred) (rnd:Option Nat) (tmps:Array Value) (t:Nat),Pre base G h w ds rnd n fr tmps ->
    ∀ (fn:FuncId) (kind:CallKind) (k:List Item) (cs:List Frame),∃ tmps' w' G',tmps'.size=n/\zj4 G' fr' tmps'/\zeV base G' h' w'/\Trans G h w G' h' w' /\
     Steps P (lone (fat fn kind rnd tmps ds (.inRegion ops (Region.schedule Od ops t)::k)) cs w) (lone (fat fn kind rnd tmps' ds k) cs w')
theorem zid {fn:FuncId} {tmps:Array Value} {params:Array Nat} {assign body:Code} (w:World) :
 (Instr.enterLoop fn tmps params assign body Oe).run P w=.ok (w.heap.size+1,[{ target:=.collected w.heap.size,args:=#[] }])
  { w with heap:=(w.heap.push (.deferred (Ob []))).push (.loop { state:=.ready,pending:=Oe,fn,tmps,params,assign,body,defers:=w.heap.size }) }:=by
 simp only [Instr.enterLoop,Sem.run_bind,run_newObj,Result.andThen_ok,Sem.run_pure,Array.size_push]
theorem zie {fn:FuncId} {tmps:Array Value} {params:Array Nat} {assign body:Code} (w:World) {l:Nat} {L:Loop} (hg:w.heap[l]?=Ob (.loop L)) :
 (Instr.enterLoop fn tmps params assign body (Ob l)).run P w=.ok (w.heap.size,[])
  { w with heap:=w.heap.push (.loop { state:=.ready,pending:=Oe,fn,tmps,params,assign,body,defers:=L.defers }) }:=by
 simp only [Instr.enterLoop,Sem.run_bind,zfz hg,Result.andThen_ok,Sem.run_pure,run_newObj]
theorem zeV.grow {G:Emb} {h:za} {w w':World} (hr:zeV base G h w) {o:Obj} (hw:w'.heap=w.heap.push o) (h1:w'.os=w.os) (h2:w'.tape=w.tape) (h3:w'.output=w.output):zeV base G h w'/\Trans G h w G h w':=by
 have hold:∀ k,k<w.heap.size->w'.heap[k]?=w.heap[k]?:=λk hk=>by rw [hw,Array.getElem?_push,if_neg J]
 have hsz:w'.heap.size=w.heap.size+1:=by rw [hw]; simp
 exact ⟨⟨⟨λb l hb=>by have:=hr.clt b l hb; omega,λb l hb=>(hr.blk b l hb).mono (.refl _) (hold _ (hr.clt b l hb)),hr.inj,by have:=hr.base; omega⟩,hr.lt⟩,
  .same J (λk hk _=>hold k hk) h1 h2 h3⟩
theorem zni {fn:FuncId} {kind:CallKind} {rnd:Option Nat} {tmps:Array Value} {ds mark:List Deferred} {k:List Item} {cs:List Frame} {w w1:World} {f:Operand} {params:Array Nat} {assign body:Code} {l:Nat} {nx:Next} {s:Frame}
 (he:(Instr.enterLoop fn tmps params assign body rnd).run P w=.ok (l,mark) w1)
 (hr:(do let d ← Deferred.ofValue (evT tmps f) #[.func (.yield l) #[] #[]]; invoke d.target d.args:Sem Next).run P w1=.ok nx w1) (hs:ziL P nx=Ob s) :
 step P (lone (fat fn kind rnd tmps ds (.code (.rangeFunc f params assign body)::k)) cs w)=.next (lone s (fat fn kind rnd tmps (mark++ds) (.inRangeFunc l::k)::cs) w1):=by
 have hev:(fat fn kind rnd tmps (mark++ds) (.inRangeFunc l::k)).eval=evT tmps:=zme ..;have hres:(do let d ← resolve (evT tmps) { callee:=.value f,args:=#[.const (.func (.yield l) #[] #[])],argTypes:=#[] } 0; invoke d.target d.args:Sem Next).run P w1=.ok nx w1:=by
  simpa [resolve,evT] using hr
 refine step_lone_go ?_;simp only [fat] at hev;simp only [stepG,stepG.exec,fat,Sem.runT_eq,he,hev];cases nx<;>simp [ziL] at hs<;>subst hs<;>simp [stepG.apply,hres]
theorem zou {w:World} {l:Nat} {L:Loop} (hg:w.heap[l]?=Ob (.loop L)) (hb:L.state≠.busy) :
 (Instr.endLoop l).run P w=.ok L.pending { w with heap:=w.heap.setIfInBounds l (.loop { L with state:=.exhausted }) }:=by
 have hb':(L.state==.busy)=Oc:=by simpa using hb
 simp only [Instr.endLoop,Sem.run_bind,zfz hg,Result.andThen_ok,hb',Bool.false_eq_true,if_false,Sem.run_pure,zhO hg]
theorem zov {fn:FuncId} {kind:CallKind} {rnd:Option Nat} {tmps:Array Value} {ds:List Deferred} {k:List Item} {cs:List Frame} {w:World} {l:Nat} {L:Loop} (hg:w.heap[l]?=Ob (.loop L)) (hb:L.state≠.busy) :
 step P (lone (fat fn kind rnd tmps ds (.endRangeFunc l::k)) cs w)=.next (lone (fat fn kind rnd tmps ds ((L.pending.map Item.code).toList++k)) cs { w with heap:=w.heap.setIfInBounds l (.loop { L with state:=.exhausted }) }):=by
 have h:=zou (P:=P) hg hb;refine step_lone_go ?_;simp [stepG,stepG.exec,fat,Sem.runT_eq,h]
include ok in
theorem zpm (hdraw:zvW T P base) (hkeep:∀ n,zjG (aexec T n)) (hck:∀ run,zjG run->zfA (acall T run)):∀ n,RunOk P base (aexec T n)
  | 0=>by intro c fr h e fr' h' hl; simp [aexec] at hl
  | m+1=>by
    have ih:=zpm hdraw hkeep hck m;have hcall:=zub ok ih;intro c fr h e fr' h' hl n hco G w ds rnd tmps pre fn kind k cs x hx;have hxc:(∀ c',c≠.loop c')->x=.code c:=λhn=>hx.resolve_right (λ⟨c',e,_⟩=>hn c' e);cases c with
    | skip=>
      have hx':=hxc (λ_ q=>by cases q); subst hx';simp only [aexec] at hl; cases hl;exact ⟨.normal,tmps,ds,w,G,⟨trivial,pre.size,pre.frame,pre.heap,.refl _ _ _,pre.dsok,⟨[],rfl,by simp⟩,pre.dsnd⟩,pre.norm,Steps.one zwB⟩
    | label l=>
      have hx':=hxc (λ_ q=>by cases q); subst hx';simp only [aexec] at hl; cases hl;exact ⟨.normal,tmps,ds,w,G,⟨trivial,pre.size,pre.frame,pre.heap,.refl _ _ _,pre.dsok,⟨[],rfl,by simp⟩,pre.dsnd⟩,pre.norm,Steps.one zt7⟩
    | exit id=>
      have hx':=hxc (λ_ q=>by cases q); subst hx';simp only [aexec] at hl; cases hl;exact ⟨.exit id,tmps,ds,w,G,⟨rfl,pre.size,pre.frame,pre.heap,.refl _ _ _,pre.dsok,⟨[],rfl,by simp⟩,pre.dsnd⟩,pre.norm,⟨k,rfl,.refl _ _⟩⟩
    | goto l=>
      have hx':=hxc (λ_ q=>by cases q); subst hx';simp only [aexec] at hl; cases hl;exact ⟨.goto l,tmps,ds,w,G,⟨rfl,pre.size,pre.frame,pre.heap,.refl _ _ _,pre.dsok,⟨[],rfl,by simp⟩,pre.dsnd⟩,pre.norm,⟨k,rfl,.refl _ _⟩⟩
    | ret=>
      have hx':=hxc (λ_ q=>by cases q); subst hx';simp only [aexec] at hl; cases hl;exact ⟨.ret,tmps,ds,w,G,⟨trivial,pre.size,pre.frame,pre.heap,.refl _ _ _,pre.dsok,⟨[],rfl,by simp⟩,pre.dsnd⟩,pre.norm,⟨k,.refl _ _⟩⟩
    | refuse s=>simp [aexec] at hl
    | region id ops draw=>
      have hx':=hxc (λ_ q=>by cases q); subst hx';simp only [zdc,Bool.and_eq_true] at hco;have hops:=zt8 hco.1;simp only [aexec] at hl;cases draw with
      | false=>
        simp only [Bool.false_eq_true,if_false] at hl;obtain ⟨e',tmps',ds',w',G',h1,h2,h3⟩:=zot ok hcall hops ops.toList 0 fr h e fr' h' rfl hl G w ds rnd tmps pre fn kind k cs;refine ⟨e',tmps',ds',w',G',h1,h2,Lands.of_steps (.one zry) ?_⟩;rw [List.range_eq_range'];have:ops.size=ops.toList.length:=by simp
        rw [this];exact h3
      | true=>
        simp only [if_true] at hl;have h2:=hco.2;simp only [Bool.not_true,Bool.false_or,Bool.and_eq_true] at h2;split at hl
        case h_2=>cases hl
        rename_i fr2 h2' had;cases hl;have hpre:Pre base G h { w with drawn:=w.drawn+1 } ds rnd n fr tmps:=⟨pre.size,pre.frame,pre.heap.heap rfl,pre.dsok,pre.dsnd,pre.rndok,pre.norm⟩;obtain ⟨tmps',w',G',q1,q2,q3,q4,q5⟩:=hdraw _ hcall (hck _ (hkeep m)) ops n hops h2.1 h2.2 fr h fr' h' had G { w with drawn:=w.drawn+1 } ds rnd tmps (w.tape w.drawn (.order fn id)) hpre fn kind k cs;have tr0:Trans G h w G h { w with drawn:=w.drawn+1 }:=.heap rfl rfl rfl rfl;have tr:=tr0.trans q4;refine ⟨.normal,tmps',ds,w',G',⟨trivial,q1,q2,q3,tr,pre.dsok.trans pre.heap tr,⟨[],rfl,by simp⟩,pre.dsnd⟩,pre.norm, ?_⟩;have hst:=zwF (P:=P) (fn:=fn) (kind:=kind) (rnd:=rnd) (tmps:=tmps) (ds:=ds) (k:=k) (cs:=cs) (w:=w) (id:=id) (ops:=ops);rw [ok.mixed] at hst;exact Steps.head hst q5
    | seq a b=>
      have hx':=hxc (λ_ q=>by cases q); subst hx';simp only [zdc,Bool.and_eq_true] at hco;simp only [aexec] at hl;cases h1:aexec T m a fr h with
      | none=>rw [h1] at hl; simp at hl
      | some out=>
        obtain ⟨e1,fr1,ha1⟩:=out;rw [h1] at hl;obtain ⟨e',tmps1,ds1,w1,G1,p1,n1,l1⟩:=ih _ _ _ _ _ _ h1 n hco.1 G w ds rnd tmps pre fn kind (.code b::k) cs _ (.inl rfl);have hex:=p1.exit;by_cases he:e1=.normal
        · subst he;cases e'<;>try exact hex.elim
          simp only at hl;obtain ⟨e'',tmps2,ds2,w2,G2,p2,n2,l2⟩:=ih _ _ _ _ _ _ hl n hco.2 G1 w1 ds1 rnd tmps1 (pre.post p1 n1) fn kind k cs _ (.inl rfl);exact ⟨e'',tmps2,ds2,w2,G2,p1.andThen p2,n2,Lands.of_steps (.head zvU l1) l2⟩
        · have hl':Ob (e1,fr1,ha1)=Ob (e,fr',h'):=by
            cases e1<;>first | (exact absurd rfl he) | exact hl
          cases hl';have hne:e'≠.normal:=by
            rintro rfl
            cases e<;>first | exact he rfl | exact hex
          exact ⟨e',tmps1,ds1,w1,G1,p1,n1,Lands.of_steps (.one zvU) (.pass (x:=.code b) rfl hne l1)⟩
    | cond c a b=>
      have hx':=hxc (λ_ q=>by cases q); subst hx';simp only [zdc,Bool.and_eq_true] at hco;simp only [aexec] at hl;split at hl
      case h_2=>cases hl
      rename_i t ht;have hv:=zkc pre.frame c;rw [ht] at hv;generalize hcc:evT tmps c=cc at hv;cases hv;obtain ⟨e',tmps1,ds1,w1,G1,p1,n1,l1⟩:=ih _ _ _ _ _ _ hl n (by cases t<;>simp [hco]) G w ds rnd tmps pre fn kind k cs _ (.inl rfl);exact ⟨e',tmps1,ds1,w1,G1,p1,n1,Lands.of_steps (.one (zwC hcc)) l1⟩
    | block id c=>
      have hx':=hxc (λ_ q=>by cases q); subst hx';simp only [zdc] at hco;simp only [aexec] at hl;cases h1:aexec T m c fr h with
      | none=>rw [h1] at hl; simp at hl
      | some out=>
        obtain ⟨e1,fr1,ha1⟩:=out;rw [h1] at hl;obtain ⟨e',tmps1,ds1,w1,G1,p1,n1,l1⟩:=ih _ _ _ _ _ _ h1 n hco G w ds rnd tmps pre fn kind (.inBlock id::k) cs _ (.inl rfl);have hex:=p1.exit;have hpst:=λ(q:zAX G1 .normal .normal)=>(⟨q,p1.size,p1.frame,p1.heap,p1.trans,p1.dsok,p1.dsnew,p1.dsnd⟩:Post base G h w ds n .normal fr1 ha1 .normal tmps1 ds1 w1 G1);cases e1 with
        | normal=>
          cases e'<;>try exact hex.elim
          simp only at hl; cases hl;exact ⟨.normal,tmps1,ds1,w1,G1,p1,n1,Steps.head zhj (Steps.trans l1 (.one zqs))⟩
        | exit id1=>
          cases e'<;>try exact hex.elim
          rename_i id2;have hid:id1=id2:=hex;subst hid;obtain ⟨k2,hk2,hst⟩:=l1;simp only at hl;split at hl
          · rename_i hid; subst hid;cases hl;refine ⟨.normal,tmps1,ds1,w1,G1,hpst trivial,n1, ?_⟩;exact Steps.head zhj (Steps.trans hst (.one (zwE (by rw [hk2]; simp [exitTo]))))
          · rename_i hid;cases hl;refine ⟨.exit id1,tmps1,ds1,w1,G1,p1,n1,⟨k2, ?_,Steps.head zhj hst⟩⟩;rw [hk2];have:(id==id1)=Oc:=by simp; exact λq=>hid q.symm
            simp [exitTo,this]
        | goto l=>
          cases e'<;>try exact hex.elim
          simp only at hl; cases hl;obtain ⟨k2,hk2,hst⟩:=l1;exact ⟨_,tmps1,ds1,w1,G1,p1,n1,⟨k2,by rw [hk2]; simp [gotoIn],Steps.head zhj hst⟩⟩
        | ret=>
          cases e'<;>try exact hex.elim
          simp only at hl; cases hl;obtain ⟨k2,hst⟩:=l1;exact ⟨_,tmps1,ds1,w1,G1,p1,n1,⟨k2,Steps.head zhj hst⟩⟩
        | pan v=>
          cases e'<;>try exact hex.elim
          simp only at hl; cases hl;obtain ⟨k2,a,hst⟩:=l1;exact ⟨_,tmps1,ds1,w1,G1,p1,n1,⟨k2,a,Steps.head zhj hst⟩⟩
    | scope c=>
      have hx':=hxc (λ_ q=>by cases q); subst hx';simp only [zdc] at hco;simp only [aexec] at hl;cases h1:aexec T m c fr h with
      | none=>rw [h1] at hl; simp at hl
      | some out=>
        obtain ⟨e1,fr1,ha1⟩:=out;rw [h1] at hl;obtain ⟨e',tmps1,ds1,w1,G1,p1,n1,l1⟩:=ih _ _ _ _ _ _ h1 n hco G w ds rnd tmps pre fn kind (.inScope c::k) cs _ (.inl rfl);have hex:=p1.exit;cases e1 with
        | normal=>
          cases e'<;>try exact hex.elim
          simp only at hl; cases hl;exact ⟨.normal,tmps1,ds1,w1,G1,p1,n1,Steps.head zjF (Steps.trans l1 (.one zqt))⟩
        | exit id1=>
          cases e'<;>try exact hex.elim
          simp only at hl; cases hl;obtain ⟨k2,hk2,hst⟩:=l1;exact ⟨_,tmps1,ds1,w1,G1,p1,n1,⟨k2,by rw [hk2]; simp [exitTo],Steps.head zjF hst⟩⟩
        | goto l=>simp at hl
        | ret=>
          cases e'<;>try exact hex.elim
          simp only at hl; cases hl;obtain ⟨k2,hst⟩:=l1;exact ⟨_,tmps1,ds1,w1,G1,p1,n1,⟨k2,Steps.head zjF hst⟩⟩
        | pan v=>
          cases e'<;>try exact hex.elim
          simp only at hl; cases hl;obtain ⟨k2,a,hst⟩:=l1;exact ⟨_,tmps1,ds1,w1,G1,p1,n1,⟨k2,a,Steps.head zjF hst⟩⟩
    | loop c=>
      have hst0:step P (lone (fat fn kind rnd tmps ds (x::k)) cs w)=.next (lone (fat fn kind rnd tmps ds (.code c::.inLoop c::k)) cs w):=by
        rcases hx with rfl | ⟨c',e,rfl⟩
        · exact zwD
        · cases e; exact zrx
      simp only [zdc] at hco;simp only [aexec] at hl;cases h1:aexec T m c fr h with
      | none=>rw [h1] at hl; simp at hl
      | some out=>
        obtain ⟨e1,fr1,ha1⟩:=out;rw [h1] at hl;obtain ⟨e',tmps1,ds1,w1,G1,p1,n1,l1⟩:=ih _ _ _ _ _ _ h1 n hco G w ds rnd tmps pre fn kind (.inLoop c::k) cs _ (.inl rfl);have hex:=p1.exit;by_cases he:e1=.normal
        · subst he;cases e'<;>try exact hex.elim
          simp only at hl;obtain ⟨e'',tmps2,ds2,w2,G2,p2,n2,l2⟩:=ih _ _ _ _ _ _ hl n (by simpa [zdc] using hco) G1 w1 ds1 rnd tmps1 (pre.post p1 n1) fn kind k cs _ (.inr ⟨c,rfl,rfl⟩);exact ⟨e'',tmps2,ds2,w2,G2,p1.andThen p2,n2,Lands.of_steps (.head hst0 l1) l2⟩
        · have hl':Ob (e1,fr1,ha1)=Ob (e,fr',h'):=by
            cases e1<;>first | (exact absurd rfl he) | exact hl
          cases hl';have hne:e'≠.normal:=by
            rintro rfl
            cases e<;>first | exact he rfl | exact hex
          exact ⟨e',tmps1,ds1,w1,G1,p1,n1,Lands.of_steps (.one hst0) (.pass (x:=.inLoop c) rfl hne l1)⟩
    | rangeFunc f params assign body=>
      have hx':=hxc (λ_ q=>by cases q); subst hx';simp only [zdc,Bool.and_eq_true] at hco;simp only [aexec] at hl
      -- the loop is laid
      have enter:∃ l mark w1,(Instr.enterLoop fn tmps params assign body rnd).run P w=.ok (l,mark) w1/\zeV base (G.add h.next ⟨l,0,0⟩) (h.push (.loop { state:=.ready,pending:=Oe,fr,params:=params.toList,assign,body })) w1 /\
          Trans G h w (G.add h.next ⟨l,0,0⟩) (h.push (.loop { state:=.ready,pending:=Oe,fr,params:=params.toList,assign,body })) w1/\ztM (mark++ds) w1/\zmf (mark++ds) /\
          (∀ d∈mark,∀ r,d={ target:=.collected r,args:=#[] }->w.heap.size<=r)/\(rnd=Oe\/mark++ds=[]):=by
        have lay:∀ (w0:World) (dn:Nat),zeV base G h w0->Trans G h w G h w0->∀ w1:World,w1.heap=w0.heap.push (.loop { state:=.ready,pending:=Oe,fn,tmps,params,assign,body,defers:=dn })->w1.os=w0.os->w1.tape=w0.tape->w1.output=w0.output ->
            zeV base (G.add h.next ⟨w0.heap.size,0,0⟩) (h.push (.loop { state:=.ready,pending:=Oe,fr,params:=params.toList,assign,body })) w1 /\
            Trans G h w (G.add h.next ⟨w0.heap.size,0,0⟩) (h.push (.loop { state:=.ready,pending:=Oe,fr,params:=params.toList,assign,body })) w1:=by
          intro w0 dn hr0 ht0 w1 hw1 q1 q2 q3;obtain ⟨a,b⟩:=zl8 hr0.toH0 hr0.none_next (.loop { state:=.ready,pending:=Oe,fr,params:=params.toList,assign,body }) _ w1 0 hw1 q1 q2 q3
            ⟨hr0.base,{ state:=.ready,pending:=Oe,fn,tmps,params,assign,body,defers:=dn },by rw [hw1]; simp,⟨rfl,λ_=>rfl,rfl,rfl,rfl,pre.frame.mono (.add pre.heap.none_next),λp hp=>by
              show p<tmps.size;rw [pre.size];have:=List.all_eq_true.1 hco.1.1 p hp;simpa using this,by show zdc tmps.size assign=Od; rw [pre.size]; exact hco.1.2,by show zdc tmps.size body=Od; rw [pre.size]; exact hco.2⟩⟩
          exact ⟨a.toH b hr0,ht0.trans b⟩
        cases hrnd:rnd with
        | none=>
          let w0:World:={ w with heap:=w.heap.push (.deferred (Ob [])) }
          obtain ⟨g1,g2⟩:=pre.heap.grow (w':=w0) rfl rfl rfl rfl;have hz:w0.heap.size=w.heap.size+1:=by simp [w0]
          obtain ⟨a,b⟩:=lay w0 w.heap.size g1 g2 { w with heap:=(w.heap.push (.deferred (Ob []))).push (.loop { state:=.ready,pending:=Oe,fn,tmps,params,assign,body,defers:=w.heap.size }) } rfl rfl rfl rfl;rw [hz] at a b;refine ⟨w.heap.size+1,_,_,zid w,a,b, ?_, ?_, ?_,.inl rfl⟩
          · intro d hd;rcases List.mem_append.1 hd with hd | hd
            · simp at hd; subst hd;exact ⟨w.heap.size,rfl,by simp [Array.getElem?_push]⟩
            · obtain ⟨r,e1,e2⟩:=pre.dsok d hd;refine ⟨r,e1, ?_⟩;have hlt:r<w.heap.size:=(Array.getElem?_eq_some_iff.1 e2).1;simp only [Array.getElem?_push,Array.size_push];rw [if_neg J,if_neg J];exact e2
          · refine List.pairwise_append.2 ⟨by simp,pre.dsnd,λd hd d' hd'=>?_⟩;simp at hd; subst hd
            rintro rfl
            obtain ⟨r,e1,e2⟩:=pre.dsok _ hd';simp at e1;subst e1;have hlt:=(Array.getElem?_eq_some_iff.1 e2).1;omega
          · intro d hd r hr;simp at hd; subst hd;simp at hr;omega
        | some l0=>
          obtain ⟨la,loc,L,r1,r2,r3⟩:=pre.rndok l0 hrnd;obtain ⟨_,L',r4,_⟩:=ziM pre.heap r1 r3;subst r2;have hds:ds=[]:=pre.norm.resolve_left (by rw [hrnd]; simp);subst hds;obtain ⟨a,b⟩:=lay w L'.defers pre.heap (.refl _ _ _) { w with heap:=w.heap.push (.loop { state:=.ready,pending:=Oe,fn,tmps,params,assign,body,defers:=L'.defers }) } rfl rfl rfl rfl;exact ⟨w.heap.size,[],_,zie w r4,a,b,(λd hd=>by cases hd),.nil,(λd hd=>by cases hd),.inr rfl⟩
      obtain ⟨l,mark,w1,hrun,hr1,ht1,hd1,hn1,hm1,hnorm⟩:=enter;cases hca:acall T (aexec T m) (fr.op f) [.func (.yield h.next) [] []] (h.push (.loop { state:=.ready,pending:=Oe,fr,params:=params.toList,assign,body })) with
      | none=>rw [hca] at hl; simp at hl
      | some out=>
        obtain ⟨r,ha2⟩:=out;rw [hca] at hl;have hargs:zcL (G.add h.next ⟨l,0,0⟩) [.func (.yield h.next) [] []] (#[Value.func (.yield l) #[] #[]]:Array Value).toList:=
          .cons (.func _ _ [] [] #[] #[] (.inl ⟨h.next,l,rfl,rfl,⟨l,0,0⟩,Emb.add_same _ _ _,rfl⟩) rfl rfl Ol Ol) (.nil _)
        obtain ⟨nx,s,q1,q2,q3⟩:=hcall _ _ _ _ _ hca _ w1 (evT tmps f) _ ((zkc pre.frame f).mono ht1.ext) hargs hr1;obtain ⟨r',w2,G2,q4,q5,q6,q7⟩:=q3 (fat fn kind rnd tmps (mark++ds) (.inRangeFunc l::k)) cs;have hst:=zni (ds:=ds) (k:=k) (cs:=cs) (kind:=kind) hrun q1 q2;have hall:=Steps.head hst q7;have tr2:=ht1.trans q6;have hd2:ztM (mark++ds) w2:=hd1.trans hr1 q6;cases r with
        | pan v=>
          simp only at hl;cases hl;cases r' with
          | ret _=>exact q4.elim
          | pan v'=>
            exact ⟨.pan v',tmps,mark++ds,w2,G2,⟨q4,pre.size,pre.frame.mono tr2.ext,q5,tr2,hd2,⟨mark,rfl,hm1⟩,hn1⟩,hnorm,⟨.inRangeFunc l::k,rfl,hall⟩⟩
        | ret v=>
          cases r' with
          | pan _=>exact q4.elim
          | ret v'=>
            simp only at hl;split at hl
            case h_2=>cases hl
            rename_i L2 hg2;split at hl
            · cases hl
            rename_i hbusy;have hb2:G2 h.next=Ob ⟨l,0,0⟩:=q6.ext _ _ (Emb.add_same _ _ _);obtain ⟨hbase2,L2',hg2',hL2⟩:=ziM q5 hb2 hg2;have hbusy':L2'.state≠.busy:=by rw [hL2.state]; exact hbusy
            have hLe:zgu G2 { L2 with state:=.exhausted } { L2' with state:=.exhausted }:=⟨rfl,λ_=>hL2.pending hbusy,hL2.params,hL2.assign,hL2.body,hL2.frame,hL2.okP,hL2.okA,hL2.okB⟩;obtain ⟨hr3,ht3⟩:=zmh q5 hb2 hg2 (L:={ L2 with state:=.exhausted }) ⟨rfl,rfl,rfl,rfl⟩ hLe;have hfin:(ztN.ret v').frame (fat fn kind rnd tmps (mark++ds) (.inRangeFunc l::k))=fat fn kind rnd tmps (mark++ds) (.endRangeFunc l::k):=by simp only [ztN.frame]; rfl
            rw [hfin] at hall;have hst3:=zov (P:=P) (fn:=fn) (kind:=kind) (rnd:=rnd) (tmps:=tmps) (ds:=mark++ds) (k:=k) (cs:=cs) hg2' hbusy';obtain ⟨w3,hw3⟩:∃ w3:World,w3={ w2 with heap:=w2.heap.setIfInBounds l (.loop { L2' with state:=.exhausted }) }:=⟨_,rfl⟩;have hall3:Steps P (lone (fat fn kind rnd tmps ds (.code (.rangeFunc f params assign body)::k)) cs w) (lone (fat fn kind rnd tmps (mark++ds) ((L2'.pending.map Item.code).toList++k)) cs w3):=by
              rw [hw3]; exact hall.trans (.one hst3)
            have tr3:=tr2.trans ht3;have hpost:∀ (e:zaQ) (e':zmg),zAX G2 e e'->Post base G h w ds n e fr (ha2.set h.next (.loop { L2 with state:=.exhausted })) e' tmps (mark++ds) w3 G2:=by
              rw [hw3];exact λe e' he=>⟨he,pre.size,pre.frame.mono tr3.ext,hr3,tr3,hd2.trans q5 ht3,⟨mark,rfl,hm1⟩,hn1⟩
            have hpend:=hL2.pending hbusy;split at hl
            · rename_i hp;cases hl;rw [hpend,hp] at hall3;exact ⟨.normal,tmps,_,_,G2,hpost .normal .normal trivial,hnorm,hall3⟩
            · rename_i hp;cases hl;rw [hpend,hp] at hall3;exact ⟨.ret,tmps,_,_,G2,hpost .ret .ret trivial,hnorm,⟨k,hall3⟩⟩
            · rename_i id hp;cases hl;rw [hpend,hp] at hall3;exact ⟨.exit id,tmps,_,_,G2,hpost (.exit id) (.exit id) rfl,hnorm,⟨k,rfl,hall3⟩⟩
            · cases hl
end
theorem Keeps.refl (h:za):Keeps h h:=⟨Nat.le_refl _,Nat.le_refl _,λ_ _ _=>rfl⟩
theorem Keeps.trans {a b c:za} (h:Keeps a b) (h':Keeps b c):Keeps a c:=by
 refine ⟨Nat.le_trans h.1 h'.1,Nat.le_trans h'.2.1 h.2.1,λx hx hw=>?_⟩;rw [h'.2.2 x (Nat.lt_of_lt_of_le hx h.1) hw];exact h.2.2 x hx (Nat.lt_of_lt_of_le hw h'.2.1)
theorem Keeps.push (h:za) (x:zfS):Keeps h (h.push x):=
 ⟨Nat.le_succ _,Nat.le_refl _,λb hb _=>by rw [za.get_push,if_neg J]⟩
theorem Keeps.set (h:za) (b:Nat) (x:zfS):Keeps h (h.set b x):=by
 refine ⟨Nat.le_refl _,Nat.min_le_left _ _,λb' _ hw=>?_⟩;have:b'<min h.wm b:=hw;rw [za.get_set,if_neg J]
section
variable {T:Tab} {h h':za}
theorem znj {t:TypeId} {a v:zd} (hl:astore T t h a v=Ob h'):Keeps h h':=by
 unfold astore at hl;repeat' split at hl
 all_goals first | (cases hl; done) | (cases hl; exact Keeps.set ..)
theorem zhE {elem:TypeId} {len n:Nat} {cap:Option Nat} {parts:List (Nat×zd)} {v:zd} (hl:zc8 T elem len cap n h parts=Ob (v,h')):Keeps h h':=by
 unfold zc8 at hl;repeat' split at hl
 all_goals first | (cases hl; done) | (cases hl; exact Keeps.push ..)
theorem znk {st xt:TypeId} {s x v:zd} (hl:azeros T st xt s x h=Ob (v,h')):Keeps h h':=by
 unfold azeros at hl;repeat' split at hl
 all_goals first | (cases hl; done) | (cases hl; exact Keeps.push ..)
theorem zmi {ts:Array TypeId} {s x v:zd} (hl:aappend T ts s x h=Ob (v,h')):Keeps h h':=by
  unfold aappend at hl;repeat' split at hl
  all_goals first
    | (cases hl; done)
    | exact znk hl
    | (simp only at hl
       repeat' split at hl
       all_goals first
         | (cases hl; done)
         | (cases hl; first | exact Keeps.refl _ | exact Keeps.push .. | exact Keeps.set .. | exact (Keeps.set ..).trans (Keeps.push ..)))
theorem zow {ts:Array TypeId} {s x v:zd} (hl:acopy T ts s x h=Ob (v,h')):Keeps h h':=by
  unfold acopy at hl;repeat' split at hl
  all_goals first
    | (cases hl; done)
    | (simp only at hl
       repeat' split at hl
       all_goals first
         | (cases hl; done)
         | (cases hl; first | exact Keeps.refl _ | exact Keeps.set ..))
theorem zgQ {t:TypeId} {m k v:zd} (hl:zbB T t m k v h=Ob h'):Keeps h h':=by
 unfold zbB at hl;repeat' split at hl
 all_goals first | (cases hl; done) | (cases hl; exact Keeps.set ..)
theorem zke {ev:Operand->zd} {o:Op} {v:zd} (hl:aop T ev h o=Ob (.val v h')):Keeps h h':=by
 cases o<;>simp only [aop] at hl<;>(try (cases hl; done))<;>(try (obtain ⟨_,rfl⟩:=zD hl; exact Keeps.refl _))
 case move=>cases hl; exact Keeps.refl _
 case assign=>cases hl; exact Keeps.refl _
 case pick=>unfold zh9 at hl; split at hl<;>cases hl; exact Keeps.refl _
 case alloc=>unfold zf1 at hl; split at hl<;>cases hl; exact Keeps.push ..
 case box=>unfold zj1 at hl; split at hl<;>cases hl; exact Keeps.push ..
 case buildSlice=>
  have hl:=zbC hl;unfold zd3 at hl;repeat' split at hl
  all_goals first | (cases hl; done) | exact zhE hl
 case store=>exact znj (zcD hl).1
 case nilCheck=>unfold zdz at hl; split at hl<;>cases hl<;>exact Keeps.refl _
 case makeInterface=>unfold zcP at hl; split at hl<;>cases hl; exact Keeps.refl _
 case makeFunc=>unfold zdA at hl; split at hl<;>cases hl; exact Keeps.refl _
 case makeMap=>unfold zeT at hl; split at hl<;>cases hl; exact Keeps.push ..
 case makeSlice=>
  have hl:=zbC hl;unfold zeD at hl;repeat' split at hl
  all_goals first | (cases hl; done) | exact zhE hl
 case mapUpdate=>exact zgQ (zcD hl).1
 case insert=>exact zgQ (zcD hl).1
 case extract=>
  unfold zfy at hl;split at hl
  . obtain ⟨_,rfl⟩:=zD hl; exact Keeps.refl _
  . cases hl
 case call c=>
  unfold zc1 at hl;split at hl
  . unfold abuiltin at hl;split at hl
    . split at hl
      . obtain ⟨_,rfl⟩:=zD hl; exact Keeps.refl _
      . cases hl
    . split at hl
      . obtain ⟨_,rfl⟩:=zD hl; exact Keeps.refl _
      . cases hl
    . exact zmi (zbC hl)
    . exact zow (zbC hl)
    . obtain ⟨_,rfl⟩:=zD hl; exact Keeps.refl _
    . obtain ⟨_,rfl⟩:=zD hl; exact Keeps.refl _
    . cases hl
  . cases hl
  . cases hl
theorem zgx {call:Caller} (hc:zfA call) {ev:Operand->zd} {o:Op} {r:zj2} (hl:astep T call ev o h=Ob (r,h')):Keeps h h':=by
 unfold astep at hl;split at hl
 . rename_i ha; cases hl; exact zke ha
 . exact hc _ _ _ _ _ hl
 . cases hl
end
theorem ziN {T:Tab} {call:Caller} (hc:zfA call) {ops:List Oper}:∀ (rest:List Oper) (fr:zi) (h:za) (e:zaQ) (fr':zi) (h':za),aops T call ops rest fr h=Ob (e,fr',h')->Keeps h h'
 | [],fr,h,e,fr',h',hl=>by simp only [aops] at hl; cases hl; exact Keeps.refl _
 | o::rest,fr,h,e,fr',h',hl=>by
  simp only [aops] at hl;split at hl
  . split at hl
    . rename_i hs; exact (zgx hc hs).trans (ziN hc rest _ _ _ _ _ hl)
    . rename_i hs; cases hl; exact zgx hc hs
    . cases hl
  . exact ziN hc rest _ _ _ _ _ hl
  . cases hl
theorem zuc {h h':za} (hk:Keeps { h with wm:=h.next } h'):Keeps h { h' with wm:=min h.wm h'.wm }:=
 ⟨hk.1,Nat.min_le_left _ _,λb hb hw=>hk.2.2 b hb (by have:b<min h.wm h'.wm:=hw; omega)⟩
theorem zhP {T:Tab} {call:Caller} (hc:zfA call) {ops:List Oper}:∀ (rest:List Oper) (i:Nat) (done:List (Nat×Foot)) (fr:zi) (h:za) (fr':zi) (h':za),adraw T call ops rest i done fr h=Ob (fr',h')->Keeps h h'
 | [],i,done,fr,h,fr',h',hl=>by simp only [adraw] at hl; cases hl; exact Keeps.refl _
 | o::rest,i,done,fr,h,fr',h',hl=>by
  simp only [adraw] at hl;split at hl
  . split at hl
    . rename_i hs;have hk:=zuc (zgx hc hs);rename_i v h1;cases hf:zcC ops i (zfT (foot fr.op o) h h1) done with
      | false=>rw [hf] at hl; cases hl
      | true=>
       rw [hf] at hl;simp only [cond_true] at hl;exact hk.trans (zhP hc rest _ _ _ _ _ _ hl)
    . cases hl
  . exact zhP hc rest _ _ _ _ _ _ hl
  . cases hl
theorem zkf {T:Tab}:∀ run,zjG run->zfA (acall T run):=by
 intro run hr f args h r h' hl;unfold acall at hl;split at hl
 ·split at hl
  ·simp only [Option.map_eq_some_iff] at hl;obtain ⟨_,_,e⟩:=hl;cases e;exact Keeps.refl _
  unfold zeE at hl;split at hl
  case h_2=>cases hl
  rename_i F _;cases hb:Nat.blt F.ntmps _ with
  | true=>rw [hb] at hl; cases hl
  | false=>
   rw [hb] at hl;simp only [cond_false] at hl;repeat' split at hl
   all_goals first
    | (cases hl; done)
    | (rename_i hh _ _ _; cases hl; exact hr _ _ _ _ _ _ hh)
    | (rename_i hh _ _; cases hl; exact hr _ _ _ _ _ _ hh)
    | (rename_i hh _; cases hl; exact hr _ _ _ _ _ _ hh)
    | (rename_i hh; cases hl; exact hr _ _ _ _ _ _ hh)
 ·unfold around at hl;split at hl
  case h_2=>cases hl
  split at hl
  case isFalse=>cases hl
  split at hl
  case h_2=>cases hl
  rename_i h1;split at hl
  case h_2=>cases hl
  split at hl
  case isFalse=>cases hl
  have k1:=hr _ _ _ _ _ _ h1;split at hl;all_goals first
   | (cases hl; done)
   | (rename_i h2; cases hl; have k2:=hr _ _ _ _ _ _ h2; exact (k1.trans (Keeps.set ..)).trans (k2.trans (Keeps.set ..)))
   | (rename_i h2; cases hl; have k2:=hr _ _ _ _ _ _ h2; exact (k1.trans (Keeps.set ..)).trans k2)
 ·cases hl
theorem zkg {T:Tab}:∀ n,zjG (aexec T n)
 | 0=>by intro c fr h e fr' h' hl; simp [aexec] at hl
 | n+1=>by
  have ih:=zkg (T:=T) n;have hc:=zkf (T:=T) _ ih;intro c fr h e fr' h' hl;cases c with
  | skip=>simp only [aexec] at hl; cases hl; exact Keeps.refl _
  | label l=>simp only [aexec] at hl; cases hl; exact Keeps.refl _
  | exit id=>simp only [aexec] at hl; cases hl; exact Keeps.refl _
  | goto l=>simp only [aexec] at hl; cases hl; exact Keeps.refl _
  | ret=>simp only [aexec] at hl; cases hl; exact Keeps.refl _
  | refuse s=>simp [aexec] at hl
  | region id ops draw=>
   simp only [aexec] at hl;split at hl
   ·split at hl
    ·rename_i hd; cases hl; exact zhP hc _ _ _ _ _ _ _ hd
    ·cases hl
   ·exact ziN hc _ _ _ _ _ _ hl
  | seq a b=>
   simp only [aexec] at hl;split at hl
   ·rename_i h1; exact (ih _ _ _ _ _ _ h1).trans (ih _ _ _ _ _ _ hl)
   ·exact ih _ _ _ _ _ _ hl
  | cond c a b=>
   simp only [aexec] at hl;split at hl
   ·exact ih _ _ _ _ _ _ hl
   ·cases hl
  | block id c=>
   simp only [aexec] at hl;split at hl
   ·rename_i h1;split at hl<;>cases hl<;>exact ih _ _ _ _ _ _ h1
   ·exact ih _ _ _ _ _ _ hl
  | loop c=>
   simp only [aexec] at hl;split at hl
   ·rename_i h1; exact (ih _ _ _ _ _ _ h1).trans (ih _ _ _ _ _ _ hl)
   ·exact ih _ _ _ _ _ _ hl
  | scope c=>
   simp only [aexec] at hl;split at hl
   ·cases hl
   ·exact ih _ _ _ _ _ _ hl
  | rangeFunc f params assign body=>
   simp only [aexec] at hl;split at hl
   ·rename_i h1;have k1:=(Keeps.push h _).trans (hc _ _ _ _ _ h1);split at hl
    case h_2=>cases hl
    split at hl
    ·cases hl
    split at hl;all_goals first | (cases hl; done) | (cases hl; exact k1.trans (Keeps.set ..))
   ·rename_i h1; cases hl; exact (Keeps.push h _).trans (hc _ _ _ _ _ h1)
   ·cases hl
def zE (W:List Nat) (h1 h1' h2 h2':za):Prop:=
 h2'.next=h1'.next/\((h1'.next=h1.next)\/h1'.next=h1.next+1) /\
 ∀ b,(h1'.get b=h1.get b/\h2'.get b=h2.get b/\(b≠h1.next\/h1'.next=h1.next))\/(h2'.get b=h1'.get b/\(b∈W\/(b=h1.next/\h1'.next=h1.next+1)))
section
variable {W:List Nat} {h1 h2:za} (hn:h2.next=h1.next)
include hn
theorem zE.refl:zE W h1 h1 h2 h2:=⟨hn,.inl rfl,λ_=>.inl ⟨rfl,rfl,.inr rfl⟩⟩
theorem zE.push (x:zfS):zE W h1 (h1.push x) h2 (h2.push x):=by
 refine ⟨by simp [za.next_push,hn],.inr (by simp [za.next_push]),λb=>?_⟩;rw [za.get_push,za.get_push,hn];by_cases e:b=h1.next
 . rw [if_pos e,if_pos e]; exact .inr ⟨rfl,.inr ⟨e,rfl⟩⟩
 . rw [if_neg e,if_neg e]; exact .inl ⟨rfl,rfl,.inl e⟩
theorem zE.set (b:Nat) (x:zfS) (hb:b∈W):zE W h1 (h1.set b x) h2 (h2.set b x):=by
 refine ⟨by simp [za.next_set,hn],.inl rfl,λb'=>?_⟩;rw [za.get_set,za.get_set];by_cases e:b'=b
 . rw [if_pos e,if_pos e]; exact .inr ⟨rfl,.inl (e▸hb)⟩
 . rw [if_neg e,if_neg e]; exact .inl ⟨rfl,rfl,.inr rfl⟩
theorem zE.move (b:Nat) (x:zfS) (hb:b∈W):zE W h1 ((h1.set b .dead).push x) h2 ((h2.set b .dead).push x):=by
 refine ⟨by simp [za.next_push,za.next_set,hn],.inr (by simp [za.next_push,za.next_set]),λb'=>?_⟩;rw [za.get_push,za.get_push,za.get_set,za.get_set,za.next_set,za.next_set,hn];by_cases e:b'=h1.next
 . rw [if_pos e,if_pos e]; exact .inr ⟨rfl,.inr ⟨e,rfl⟩⟩
 . rw [if_neg e,if_neg e];by_cases e2:b'=b
   . rw [if_pos e2,if_pos e2]; exact .inr ⟨rfl,.inl (e2▸hb)⟩
   . rw [if_neg e2,if_neg e2]; exact .inl ⟨rfl,rfl,.inl e⟩
end
section
variable {T:Tab} {h1 h2:za}
theorem zox {t:TypeId} {a:zd} (hag:∀ b∈zS a,h2.get b=h1.get b):aload T t h2 a=aload T t h1 a:=by
 unfold aload;cases a<;>try rfl
 rename_i b off;simp only [hag b (by simp [zS])]
theorem zmj {t:TypeId} {x ix:zd} {ok:Bool} (hag:∀ b∈zS x,h2.get b=h1.get b):alookup T t x ix ok h2=alookup T t x ix ok h1:=by
 unfold alookup;cases x<;>try rfl
 rename_i r;simp only [hag r (by simp [zS])]
theorem zlC {es n:Nat} {x:zd} (hag:∀ b∈zS x,h2.get b=h1.get b):arow es n x h2=arow es n x h1:=by
 unfold arow;cases x<;>try rfl
 rename_i b off len es' cap;simp only [hag b (by simp [zS])]
theorem zqx {t:TypeId} {x:zd} (hag:∀ b∈zon x,h2.get b=h1.get b):alen T t x h2=alen T t x h1:=by
 unfold alen;cases x
 case map r=>
  have hr:=hag r (by simp [zon]);cases T.und t with
  | none=>rfl
  | some d=>cases d<;>first | rfl | simp only [hr]
 all_goals (cases T.und t with
  | none=>rfl
  | some d=>cases d<;>rfl)
theorem znl {t:TypeId} {a v:zd} {h1':za} (hn:h2.next=h1.next) (hag:∀ b∈zS a,h2.get b=h1.get b) (hl:astore T t h1 a v=Ob h1') :
 ∃ h2',astore T t h2 a v=Ob h2'/\zE (zS a) h1 h1' h2 h2':=by
 unfold astore at hl ⊢;split at hl
 case h_2=>cases hl
 rename_i b off;simp only [hag b (by simp [zS])];split at hl
 case h_2=>cases hl
 rename_i cells hg;split at hl
 case h_2=>cases hl
 rename_i n hsz;split at hl
 case isFalse=>cases hl
 rename_i hc;cases hl;rw [if_pos hc];exact ⟨_,rfl,zE.set hn b _ (by simp [zS])⟩
theorem zgR {t:TypeId} {m k v:zd} {h1':za} (hn:h2.next=h1.next) (hag:∀ b∈zS m,h2.get b=h1.get b) (hl:zbB T t m k v h1=Ob h1') :
 ∃ h2',zbB T t m k v h2=Ob h2'/\zE (zS m) h1 h1' h2 h2':=by
 unfold zbB at hl ⊢;split at hl
 case h_2=>cases hl
 rename_i key elem r hu;simp only [hag r (by simp [zS])];split at hl
 case isFalse=>cases hl
 rename_i hk;simp only [hk,if_true];split at hl
 case h_2=>cases hl
 rename_i es hg;split at hl
 . rename_i i u hf;cases hl;exact ⟨_,by simp [hf],zE.set hn r _ (by simp [zS])⟩
 . rename_i hf;cases hl;exact ⟨_,by simp [hf],zE.set hn r _ (by simp [zS])⟩
 . cases hl
theorem zhF {elem:TypeId} {len n:Nat} {cap:Option Nat} {parts:List (Nat×zd)} {v:zd} {h1':za} (hn:h2.next=h1.next) (hl:zc8 T elem len cap n h1 parts=Ob (v,h1')) :
 ∃ h2',zc8 T elem len cap n h2 parts=Ob (v,h2')/\zE [] h1 h1' h2 h2':=by
 unfold zc8 at hl ⊢;rw [hn];split at hl
 case h_2=>cases hl
 split at hl
 . cases hl
 rename_i hs;split at hl
 case h_2=>cases hl
 split at hl
 case isFalse=>cases hl
 rename_i hz;split at hl
 case h_2=>cases hl
 cases hl;exact ⟨_,by simp only [hs,hz,if_false,if_true],zE.push hn _⟩
theorem zoy {ts:Array TypeId} {d s v:zd} {h1':za} (hn:h2.next=h1.next) (hd:∀ b∈zS d,h2.get b=h1.get b) (hs:∀ b∈zS s,h2.get b=h1.get b) (hl:acopy T ts d s h1=Ob (v,h1')) :
 ∃ h2',acopy T ts d s h2=Ob (v,h2')/\zE (zS d) h1 h1' h2 h2':=by
 unfold acopy at hl ⊢;split at hl
 case h_2=>cases hl
 split at hl
 case h_2=>cases hl
 split at hl
 case h_2=>cases hl
 simp only at hl ⊢;split at hl
 . cases hl
 rename_i hes;rw [if_neg hes];rw [zlC hs];split at hl
 case h_2=>cases hl
 split at hl
 . cases hl;exact ⟨_,rfl,zE.refl hn⟩
 . rename_i b off len es' cap _;rw [hd b (by simp [zS])];split at hl
   case h_2=>cases hl
   split at hl
   case isFalse=>cases hl
   rename_i hc;cases hl;rw [if_pos hc];exact ⟨_,rfl,zE.set hn b _ (by simp [zS])⟩
 . cases hl
theorem znm {st xt:TypeId} {s x v:zd} {h1':za} (hn:h2.next=h1.next) (hl:azeros T st xt s x h1=Ob (v,h1')) :
 ∃ h2',azeros T st xt s x h2=Ob (v,h2')/\zE (zS s) h1 h1' h2 h2':=by
 unfold azeros at hl ⊢;split at hl
 case h_2=>cases hl
 split at hl
 case h_2=>cases hl
 split at hl
 case h_2=>cases hl
 split at hl
 . cases hl
 rename_i he;split at hl
 case isFalse=>cases hl
 rename_i hc;cases hl;simp only [if_neg he,if_pos hc,hn];exact ⟨_,rfl,zE.push hn _⟩
theorem zmk {ts:Array TypeId} {s x v:zd} {h1':za} (hn:h2.next=h1.next) (hs:∀ b∈zS s,h2.get b=h1.get b) (hx:∀ b∈zS x,h2.get b=h1.get b) (hl:aappend T ts s x h1=Ob (v,h1')) :
 ∃ h2',aappend T ts s x h2=Ob (v,h2')/\zE (zS s) h1 h1' h2 h2':=by
 unfold aappend at hl ⊢;split at hl
 case h_2=>cases hl
 split at hl
 . rename_i hst;rw [if_pos hst];exact znm hn hl
 rename_i hst;rw [if_neg hst];split at hl
 case h_2=>cases hl
 split at hl
 case h_2=>cases hl
 simp only at hl ⊢;split at hl
 . cases hl
 split at hl
 . cases hl
 rename_i hes;rw [if_neg hes,zlC hx];split at hl
 case h_2=>cases hl
 split at hl
 . split at hl
   . rename_i h0;cases hl;rw [if_pos h0];exact ⟨_,rfl,zE.refl hn⟩
   . rename_i h0;rw [if_neg h0];split at hl
     case isFalse=>cases hl
     rename_i hc;cases hl;rw [if_pos hc,hn];exact ⟨_,rfl,zE.push hn _⟩
 . rename_i b off len es' cap;rw [hs b (by simp [zS])];split at hl
   case isFalse=>cases hl
   rename_i hc;rw [if_pos hc];split at hl
   case h_2=>cases hl
   split at hl
   . split at hl
     . rename_i hroom;split at hl
       case isFalse=>cases hl
       rename_i hc2;cases hl;simp only [hroom,hc2,if_true,and_self];exact ⟨_,rfl,zE.set hn b _ (by simp [zS])⟩
     . rename_i hroom;split at hl
       case isFalse=>cases hl
       rename_i hc2;cases hl;simp only [hroom,hc2,if_true,if_false,hn];exact ⟨_,rfl,zE.push hn _⟩
   . split at hl
     case isFalse=>cases hl
     rename_i hc2;cases hl;simp only [hc2,if_true,and_self,hn];exact ⟨_,rfl,zE.move hn b _ (by simp [zS])⟩
 . cases hl
theorem zE.mono {W W':List Nat} {a b c d:za} (h:zE W a b c d) (hw:∀ x∈W,x∈W'):zE W' a b c d:=
 ⟨h.1,h.2.1,λx=>by
  rcases h.2.2 x with q | ⟨q1,q2 | q2⟩
  ·exact .inl q
  ·exact .inr ⟨q1,.inl (hw x q2)⟩
  ·exact .inr ⟨q1,.inr q2⟩⟩
theorem znn {ev:Operand->zd} {o:Oper} {v:zd} {h1':za} (hl:aop T ev h1 o.op=Ob (.val v h1')) (hn:h2.next=h1.next) (hag:∀ b,b∈(foot ev o).rd\/b∈(foot ev o).wr->h2.get b=h1.get b) :
 ∃ h2',aop T ev h2 o.op=Ob (.val v h2')/\zE (foot ev o).wr h1 h1' h2 h2':=by
 unfold foot at hag ⊢;cases ho:o.op<;>rw [ho] at hl<;>simp only [ho] at hag<;>simp only [aop] at hl ⊢<;>(try (cases hl; done))
 case move x=>cases hl; exact ⟨h2,rfl,zE.refl hn⟩
 case assign x=>cases hl; exact ⟨h2,rfl,zE.refl hn⟩
 case pick c a b=>
  unfold zh9 at hl ⊢;split at hl<;>cases hl;exact ⟨h2,rfl,zE.refl hn⟩
 case alloc elem=>
  unfold zf1 at hl ⊢;split at hl<;>cases hl;rw [hn];exact ⟨_,rfl,zE.push hn _⟩
 case box elem x=>
  unfold zj1 at hl ⊢;split at hl<;>cases hl;rename_i hne;refine ⟨h2.push (.arr (ev x).cells Oc), ?_,zE.push hn _⟩;rw [hn]
 case build t parts=>
  obtain ⟨hl2,rfl⟩:=zD hl;exact ⟨h2,by rw [hl2]; rfl,zE.refl hn⟩
 case buildSlice t len parts=>
  have hl2:=zbC hl;unfold zd3 at hl2 ⊢;split at hl2
  case h_2=>cases hl2
  split at hl2
  . cases hl2
  rename_i hb;obtain ⟨h2',q1,q2⟩:=zhF hn hl2;rw [if_neg hb,q1];exact ⟨h2',rfl,q2⟩
 case load t a=>
  obtain ⟨hl2,rfl⟩:=zD hl;rw [zox (λb hb=>hag b (.inl hb)),hl2];exact ⟨h2,rfl,zE.refl hn⟩
 case store t a x=>
  obtain ⟨hl2,rfl⟩:=zcD hl;obtain ⟨h2',q1,q2⟩:=znl hn (λb hb=>hag b (.inr hb)) hl2;rw [q1];exact ⟨h2',rfl,q2⟩
 case nilCheck x=>
  unfold zdz at hl ⊢;split at hl<;>cases hl<;>exact ⟨h2,rfl,zE.refl hn⟩
 case binOp op t x y yt=>
  obtain ⟨hl2,rfl⟩:=zD hl;exact ⟨h2,by rw [hl2]; rfl,zE.refl hn⟩
 case unOp op t x=>
  obtain ⟨hl2,rfl⟩:=zD hl;exact ⟨h2,by rw [hl2]; rfl,zE.refl hn⟩
 case convert src dst x=>
  obtain ⟨hl2,rfl⟩:=zD hl;exact ⟨h2,by rw [hl2]; rfl,zE.refl hn⟩
 case makeInterface t x=>
  unfold zcP at hl ⊢;split at hl<;>cases hl;exact ⟨h2,rfl,zE.refl hn⟩
 case makeFunc fn first captured=>
  unfold zdA at hl ⊢;split at hl<;>cases hl;exact ⟨h2,rfl,zE.refl hn⟩
 case makeMap t r=>
  unfold zeT at hl ⊢;split at hl<;>cases hl;rw [hn];exact ⟨_,rfl,zE.push hn _⟩
 case makeSlice t l c=>
  have hl2:=zbC hl;unfold zeD at hl2 ⊢;split at hl2
  case h_2=>cases hl2
  split at hl2
  case h_2=>cases hl2
  split at hl2
  case isFalse=>cases hl2
  rename_i hb;obtain ⟨h2',q1,q2⟩:=zhF hn hl2;rw [if_pos hb,q1];exact ⟨h2',rfl,q2⟩
 case slice t x lo hi mx=>
  obtain ⟨hl2,rfl⟩:=zD hl;exact ⟨h2,by rw [hl2]; rfl,zE.refl hn⟩
 case fieldAddr s x f=>
  obtain ⟨hl2,rfl⟩:=zD hl;exact ⟨h2,by rw [hl2]; rfl,zE.refl hn⟩
 case field t x f=>
  obtain ⟨hl2,rfl⟩:=zD hl;exact ⟨h2,by rw [hl2]; rfl,zE.refl hn⟩
 case indexAddr t x ix=>
  obtain ⟨hl2,rfl⟩:=zD hl;exact ⟨h2,by rw [hl2]; rfl,zE.refl hn⟩
 case index t x ix=>
  obtain ⟨hl2,rfl⟩:=zD hl;exact ⟨h2,by rw [hl2]; rfl,zE.refl hn⟩
 case lookup t x ix b=>
  obtain ⟨hl2,rfl⟩:=zD hl;rw [zmj (λb hb=>hag b (.inl hb)),hl2];exact ⟨h2,rfl,zE.refl hn⟩
 case mapUpdate t m k x=>
  obtain ⟨hl2,rfl⟩:=zcD hl;obtain ⟨h2',q1,q2⟩:=zgR hn (λb hb=>hag b (.inr hb)) hl2;rw [q1];exact ⟨h2',rfl,q2⟩
 case insert t m k x=>
  obtain ⟨hl2,rfl⟩:=zcD hl;obtain ⟨h2',q1,q2⟩:=zgR hn (λb hb=>hag b (.inr hb)) hl2;rw [q1];exact ⟨h2',rfl,q2⟩
 case extract t i=>
  unfold zfy at hl ⊢;split at hl
  . obtain ⟨hl2,rfl⟩:=zD hl;exact ⟨h2,by rw [hl2]; rfl,zE.refl hn⟩
  . cases hl
 case call c=>
  unfold zc1 at hl ⊢;cases hc:c.callee<;>rw [hc] at hl<;>simp only [hc] at hag<;>simp only at hl ⊢<;>(try (cases hl; done));rename_i b;generalize hxs:c.args.toList.map ev=xs at hl hag ⊢;unfold abuiltin at hl ⊢;split at hl
  . split at hl
    case h_2=>cases hl
    obtain ⟨hl2,rfl⟩:=zD hl;rw [zqx (λb hb=>hag b (.inl (by simpa using hb))),hl2];exact ⟨h2,rfl,zE.refl hn⟩
  . split at hl
    case h_2=>cases hl
    obtain ⟨hl2,rfl⟩:=zD hl;rw [hl2];exact ⟨h2,rfl,zE.refl hn⟩
  . have hl2:=zbC hl;obtain ⟨h2',q1,q2⟩:=zmk hn (λb hb=>hag b (.inr (by simpa using hb))) (λb hb=>hag b (.inl (by simpa using hb))) hl2;rw [q1];exact ⟨h2',rfl,q2.mono (λx hx=>by simpa using hx)⟩
  . have hl2:=zbC hl;obtain ⟨h2',q1,q2⟩:=zoy hn (λb hb=>hag b (.inr (by simpa using hb))) (λb hb=>hag b (.inl (by simpa using hb))) hl2;rw [q1];exact ⟨h2',rfl,q2.mono (λx hx=>by simpa using hx)⟩
  . obtain ⟨hl2,rfl⟩:=zD hl;exact ⟨h2,by rw [hl2]; rfl,zE.refl hn⟩
  . obtain ⟨hl2,rfl⟩:=zD hl;exact ⟨h2,by rw [hl2]; rfl,zE.refl hn⟩
  . cases hl
theorem zif {ev ev':Operand->zd} (ps:List (Nat×Operand)) (h:∀ x∈ps.map (·.2),ev x=ev' x):zds ev ps=zds ev' ps:=by
 unfold zds;exact List.map_congr_left (λp hp=>by rw [h p.2 (List.mem_map.2 ⟨p,hp,rfl⟩)])
theorem ziO {ev ev':Operand->zd} (o:Option Operand) (h:∀ x∈o.toArray.toList,ev x=ev' x):o.map ev=o.map ev':=by
 cases o with
 | none=>rfl
 | some x=>simp [h x Ol]
theorem zrD {ev ev':Operand->zd} {op:Op} (h:∀ x∈op.operands.toList,ev x=ev' x) (h1:za):aop T ev h1 op=aop T ev' h1 op:=by
 cases op<;>simp only [aop]<;>(try rfl)
 case move x=>rw [h x Oi]
 case assign x=>rw [h x Oi]
 case pick c a b=>unfold zh9; rw [h c Oi,h a Oi,h b Oi]
 case box t x=>unfold zj1; rw [h x Oi]
 case build t ps=>rw [zif ps.toList (by simpa [Op.operands] using h)]
 case buildSlice t n ps=>rw [zif ps.toList (by simpa [Op.operands] using h)]
 case load t a=>rw [h a Oi]
 case store t a x=>rw [h a Oi,h x Oi]
 case nilCheck x=>rw [h x Oi]
 case binOp o t x y yt=>rw [h x Oi,h y Oi]
 case unOp o t x=>rw [h x Oi]
 case convert a b x=>rw [h x Oi]
 case makeInterface t x=>rw [h x Oi]
 case makeFunc fn first captured=>
  have h':∀ x,x∈first.toList\/x∈captured.toList->ev x=ev' x:=λx hx=>h x (by simpa [Op.operands] using hx);rw [show zdA ev h1 fn first.toList captured.toList=zdA ev' h1 fn first.toList captured.toList from by
   unfold zdA;rw [List.map_congr_left (λx hx=>h' x (.inl hx)),List.map_congr_left (λx hx=>h' x (.inr hx))]]
 case makeMap t r=>
  unfold zeT;cases r with
  | none=>rfl
  | some x=>simp only [h x Oi]
 case makeSlice t l c=>rw [h l Oi,h c Oi]
 case slice t x lo hi mx=>
  have h':∀ y,y=x\/y∈lo.toArray.toList\/y∈hi.toArray.toList\/y∈mx.toArray.toList->ev y=ev' y:=λy hy=>h y (by
   simp only [Op.operands,Array.toList_append,List.mem_append];rcases hy with rfl | hy | hy | hy
   . exact .inl (.inl (.inl Ol))
   . exact .inl (.inl (.inr hy))
   . exact .inl (.inr hy)
   . exact .inr hy)
  rw [h' x (.inl rfl),ziO lo (λy hy=>h' y (.inr (.inl hy))),ziO hi (λy hy=>h' y (.inr (.inr (.inl hy)))),ziO mx (λy hy=>h' y (.inr (.inr (.inr hy))))]
 case fieldAddr s x f=>rw [h x Oi]
 case field t x f=>rw [h x Oi]
 case indexAddr t x ix=>rw [h x Oi,h ix Oi]
 case index t x ix=>rw [h x Oi,h ix Oi]
 case lookup t x ix b=>rw [h x Oi,h ix Oi]
 case mapUpdate t m k x=>rw [h m Oi,h k Oi,h x Oi]
 case insert t m k x=>rw [h m Oi,h k Oi,h x Oi]
 case extract t i=>rw [h t Oi]
 case call c=>
  have h':∀ x,x∈c.operands.toList->ev x=ev' x:=λx hx=>h x (by simpa [Op.operands] using hx);have ha:c.args.toList.map ev=c.args.toList.map ev':=List.map_congr_left (λx hx=>h' x (by simp only [Call.operands,Array.toList_append,List.mem_append]; exact .inr hx));unfold zc1;cases hc:c.callee with
  | builtin b=>simp only [ha]
  | value f=>simp only [ha,h' f (by simp [Call.operands,hc])]
  | invoke r m=>rfl
end
def preds (ops:Array Oper) (S:Nat->Prop) (i:Nat):Prop:=∀ o,ops[i]?=Ob o->∀ e∈o.after.toList,Region.binds .any e=Od->S e.on
inductive Sched (ops:Array Oper):(Nat->Prop)->List Nat->Prop where
 | nil (S:Nat->Prop) (h:∀ i,i<ops.size->S i):Sched ops S []
 | cons (S:Nat->Prop) (i:Nat) (l:List Nat) (hi:i<ops.size) (hn:¬ S i) (hp:preds ops S i) (h:Sched ops (λx=>S x\/x=i) l):Sched ops S (i::l)
theorem Sched.congr {ops:Array Oper} {S S':Nat->Prop} {l:List Nat} (h:Sched ops S l) (e:∀ x,S x↔S' x):Sched ops S' l:=by
 have:S=S':=funext λx=>propext (e x);exact this▸h
theorem zjj:∀ (os:List Oper) (k:Nat),zhN os k=Od->∀ (i:Nat) o,os[i]?=Ob o->∀ e∈o.after.toList,Region.binds .any e=Od->e.on<k+i
 | [],k,_,i,o,ho,e,_,_=>by simp at ho
 | x::xs,k,h,i,o,ho,e,he,hb=>by
  simp only [zhN,Bool.and_eq_true] at h;cases i with
  | zero=>
   simp at ho; subst ho;have:=Array.all_eq_true_iff_forall_mem.1 h.1 e (by simpa using he);rw [hb] at this;simpa using this
  | succ i=>
   have:=zjj xs (k+1) h.2 i o (by simpa using ho) e he hb;omega
theorem zud {ops:Array Oper} (hedge:zhN ops.toList 0=Od):∀ (fuel t:Nat) (listed:Array Bool),listed.size=ops.size->listed.toList.count Oc<=fuel ->
    Sched ops (λi=>listed.getD i Oc=Od) (Region.linearise.go .any ops fuel t listed []):=by
  intro fuel;induction fuel with
  | zero=>
    intro t listed hsz hc;simp only [Region.linearise.go,List.reverse_nil];refine .nil _ (λi hi=>?_);have hlt:i<listed.size:=J
    have hno:Oc∉listed.toList:=by
      intro hm;have:=List.count_pos_iff.2 hm;omega
    have hv:listed[i]=Od:=by
      cases hb:listed[i] with
      | true=>rfl
      | false=>exact absurd (by rw [← hb]; exact Array.getElem_mem_toList hlt) hno
    simp [Array.getD,hlt,hv]
  | succ fuel ih=>
    intro t listed hsz hc;simp only [Region.linearise.go];change Sched ops _ (match (Region.ready .any ops listed)[t%(Region.ready .any ops listed).length]? with
      | some i=>Region.linearise.go .any ops fuel (t/(Region.ready .any ops listed).length) (listed.setIfInBounds i Od) [i]
      | none=>[].reverse)
    cases hi:(Region.ready .any ops listed)[t%(Region.ready .any ops listed).length]? with
    | none=>
      have hnil:Region.ready .any ops listed=[]:=by
        cases hr:Region.ready .any ops listed with
        | nil=>rfl
        | cons x xs=>
          rw [hr] at hi;have hlt:t%(x::xs).length<(x::xs).length:=Nat.mod_lt _ Ol;simp at hi;simp at hlt;omega
      simp only [List.reverse_nil];refine .nil _ ?_;intro i;induction i using Nat.strongRecOn with
      | _ i ihi=>
        intro hi';have hlt:i<listed.size:=J
        cases hb:listed.getD i Oc with
        | true=>rfl
        | false=>
          exfalso;have hmem:i∈Region.ready .any ops listed:=by
            rw [mem_ready];refine ⟨?_,ops[i],Array.getElem?_eq_getElem hi',λe he heb=>?_⟩
            · simp [Array.getD,hlt] at hb ⊢; exact hb
            · have hlt2:=zjj ops.toList 0 hedge i ops[i] Ol e (by simpa using he) heb;exact ihi e.on J J
          rw [hnil] at hmem;cases hmem
    | some i=>
      have hmem:=List.mem_of_getElem? hi;rw [mem_ready] at hmem;obtain ⟨h0,o,ho,hall⟩:=hmem;have hlt:i<ops.size:=(Array.getElem?_eq_some_iff.1 ho).1;have hlt2:i<listed.size:=J
      simp only [];rw [linearise_go_acc,List.reverse_singleton,List.singleton_append];have hfalse:listed[i]=Oc:=by simpa [Array.getD,hlt2] using h0
      refine .cons _ i _ hlt (by simp [Array.getD,hlt2,hfalse]) ?_ ?_
      · intro o' ho' e he hb;rw [ho] at ho'; cases ho';exact hall e (by simpa using he) hb
      · refine (ih (t/(Region.ready .any ops listed).length) (listed.setIfInBounds i Od) (by simpa using hsz) ?_).congr ?_
        · have hcs:(listed.setIfInBounds i Od).toList.count Oc=listed.toList.count Oc-1:=by
            rw [Array.toList_setIfInBounds,List.count_set (by simpa using hlt2)];simp [hfalse]
          omega
        · intro x;by_cases hx:x=i
          · subst hx; simp [Array.getD,hlt2]
          · rw [getD_set_ne Oc (λq=>hx q.symm)]; simp [hx]
theorem zlb {ops:Array Oper} (hedge:zhN ops.toList 0=Od) (t:Nat):Sched ops (λ_=>False) (Region.schedule Od ops t):=by
 have h:=zud hedge ops.size t (Array.replicate ops.size Oc) Ol (by
  rw [Array.toList_replicate,List.count_replicate]; simp)
 refine Sched.congr (S:=_) (by simpa [Region.schedule,Region.linearise] using h) (λx=>?_);constructor
 . intro hx;have hx':(Array.replicate ops.size Oc)[x]?.getD Oc=Od:=hx;rw [Array.getElem?_replicate] at hx';split at hx'<;>simp at hx'
 . exact False.elim
def Closed (ops:Array Oper) (S:Nat->Prop):Prop:=∀ i,S i->preds ops S i
theorem zlD {ops:Array Oper} {S:Nat->Prop} (hc:Closed ops S):∀ (k:Nat) (todo seen:List Nat),(∀ x∈seen,S x)->(∀ x∈todo,preds ops S x)->∀ x∈before ops.toList k todo seen,S x
 | 0,todo,seen,hs,_,x,hx=>hs x hx
 | k+1,[],seen,hs,_,x,hx=>hs x hx
 | k+1,j::todo,seen,hs,ht,x,hx=>by
  have hpre:=ht j (List.mem_cons_self ..);simp only [before] at hx;have hnews:∀ y∈((match ops.toList[j]? with
   | some o=>(o.after.toList.filter (Region.binds .any)).map (λ(e:Edge)=>e.on)
   | none=>[]).filter λi=>!seen.contains i),S y:=by
   intro y hy;have hy:=(List.mem_filter.1 hy).1;cases ho:ops.toList[j]? with
   | none=>rw [ho] at hy; cases hy
   | some o=>
    rw [ho] at hy;obtain ⟨e,he,rfl⟩:=List.mem_map.1 hy;obtain ⟨he1,he2⟩:=List.mem_filter.1 he;exact hpre o (by simpa using ho) e he1 he2
  refine zlD hc k _ _ ?_ ?_ x hx
  ·intro y hy;rcases List.mem_append.1 hy with hy | hy
   ·exact hnews y hy
   ·exact hs y hy
  ·intro y hy;rcases List.mem_append.1 hy with hy | hy
   ·exact hc y (hnews y hy)
   ·exact ht y (List.mem_cons_of_mem _ hy)
theorem zen {ops:Array Oper} {S:Nat->Prop} (hc:Closed ops S) {i j:Nat} (hp:preds ops S i) (hj:j∈zct ops.toList i):S j:=
 zlD hc _ [i] [] (λx hx=>by cases hx) (λx hx=>by simp at hx; subst hx; exact hp) j hj
theorem zfV (all:List Oper):∀ (os:List Oper) (k:Nat),ziK all os k=Od->∀ (i:Nat) o,os[i]?=Ob o->∀ (j:Nat) a,j<k+i->all[j]?=Ob a->zfu all a o=Od\/j∈zct all (k+i)
 | [],k,_,i,o,ho,_,_,_,_=>by simp at ho
 | x::xs,k,h,i,o,ho,j,a,hj,ha=>by
  simp only [ziK,Bool.and_eq_true] at h;cases i with
  | zero=>
   simp at ho; subst ho;have h1:=h.1;split at h1
   ·rename_i hq;have:=List.all_eq_true.1 hq j (List.mem_range.2 J);rw [ha] at this;exact .inl this
   ·have:=List.all_eq_true.1 h1 j (List.mem_range.2 J);rw [ha] at this;simp only [Bool.or_eq_true] at this;rcases this with q | q
    ·exact .inl q
    ·right; simpa using q
  | succ i=>
   have:=zfV all xs (k+1) h.2 i o (by simpa using ho) j a J ha;rw [show k+(i+1)=k+1+i from by omega];exact this
section
variable {T:Tab} {call:Caller}
structure zoz (T:Tab) (call:Caller) (os:List Oper) (st:Nat->zi×za) (vl:Nat->zd) (ft:Nat->Foot) (ex:Nat->Bool) (i:Nat) (done:List (Nat×Foot)):Prop where
 step:∀ k o,i<=k->os[k]?=Ob o ->
  (ex k=Oc/\awanted os (st k).1 o.guard=Ob Oc/\vl k=unit/\st (k+1)=(putDst (st k).1 o.dst unit,(st k).2)) \/
  (ex k=Od/\awanted os (st k).1 o.guard=Ob Od/\∃ h',astep T call (st k).1.op o.op { (st k).2 with wm:=(st k).2.next }=Ob (.ret (vl k),h') /\
   ft k=zfT (foot (st k).1.op o) (st k).2 h'/\st (k+1)=(putDst (st k).1 o.dst (vl k),{ h' with wm:=min (st k).2.wm h'.wm }))
 apart:∀ j k,i<=j->j<k->k<os.length->ex k=Od->ex j=Od->(ft j).apart (ft k)=Od\/j∈zct os k
 apartD:∀ p∈done,∀ k,i<=k->k<os.length->ex k=Od->p.2.apart (ft k)=Od\/p.1∈zct os k
theorem zno {os:List Oper} {j:Nat} {f:Foot} {done:List (Nat×Foot)} (h:zcC os j f done=Od):∀ p∈done,p.2.apart f=Od\/p.1∈zct os j:=by
 intro p hp;unfold zcC at h;split at h
 . rename_i hq;exact .inl (List.all_eq_true.1 hq p hp)
 . have:=List.all_eq_true.1 h p hp;simp only [Bool.or_eq_true] at this;rcases this with q | q
   . exact .inl q
   . right; simpa using q
theorem zhQ {os:List Oper}:∀ (rest:List Oper) (i:Nat) (done:List (Nat×Foot)) (fr:zi) (h:za) (fr':zi) (h':za),os.drop i=rest->adraw T call os rest i done fr h=Ob (fr',h') ->
    ∃ st vl ft ex,st i=(fr,h)/\zoz T call os st vl ft ex i done/\st (i+rest.length)=(fr',h')
  | [],i,done,fr,h,fr',h',hd,hl=>by
    simp only [adraw] at hl;cases hl;have hlen:os.length<=i:=by
      have:=congrArg List.length hd;simp at this; omega
    refine ⟨λ_=>(fr,h),λ_=>unit,λ_=>⟨[],Oc,[],Oc⟩,λ_=>Oc,rfl,⟨?_, ?_, ?_⟩,rfl⟩
    · intro k o hk ho;have:=(List.getElem?_eq_some_iff.1 ho).1;omega
    · intro j k _ _ _ he; cases he
    · intro p _ k _ _ he; cases he
  | o::rest,i,done,fr,h,fr',h',hd,hl=>by
    have hoi:os[i]?=Ob o:=by
      have:=congrArg (λl=>l[0]?) hd;simpa [List.getElem?_drop] using this
    have hd2:os.drop (i+1)=rest:=by
      have:=congrArg (λl=>l.drop 1) hd;simpa [List.drop_drop] using this
    simp only [adraw] at hl;split at hl
    · rename_i hw;split at hl
      · rename_i v h1 hs;cases hf:zcC os i (zfT (foot fr.op o) h h1) done with
        | false=>rw [hf] at hl; cases hl
        | true=>
          rw [hf] at hl;simp only [cond_true] at hl;obtain ⟨st,vl,ft,ex,s1,s2,s3⟩:=zhQ rest (i+1) _ _ _ fr' h' hd2 hl;refine ⟨λk=>if k=i then (fr,h) else st k,λk=>if k=i then v else vl k,λk=>if k=i then zfT (foot fr.op o) h h1 else ft k,λk=>if k=i then Od else ex k,by simp,⟨?_, ?_, ?_⟩, ?_⟩
          · intro k o' hk ho';by_cases e:k=i
            · subst e;rw [hoi] at ho'; cases ho';right;simp only [if_true,if_neg (show ¬ (k+1=k) by omega)];exact ⟨trivial,hw,h1,hs,rfl,s1⟩
            · simp only [if_neg e,if_neg (show ¬ (k+1=i) by omega)];exact s2.step k o' J ho'
          · intro j k hj hjk hk hek hej;simp only [if_neg (show ¬ k=i by omega)] at hek ⊢;by_cases e:j=i
            · subst e;simp only [if_true];exact s2.apartD (j,_) (List.mem_cons_self ..) k J hk hek
            · simp only [if_neg e] at hej ⊢;exact s2.apart j k J hjk hk hek hej
          · intro p hp k hk hkl hek;by_cases e:k=i
            · subst e;simp only [if_true];exact zno hf p hp
            · simp only [if_neg e] at hek ⊢;exact s2.apartD p (List.mem_cons_of_mem _ hp) k J hkl hek
          · show (if i+(o::rest).length=i then (fr,h) else st (i+(o::rest).length))=_;rw [if_neg Ol,show i+(o::rest).length=i+1+rest.length from by simp; omega];exact s3
      · cases hl
    · rename_i hw;obtain ⟨st,vl,ft,ex,s1,s2,s3⟩:=zhQ rest (i+1) _ _ _ fr' h' hd2 hl;refine ⟨λk=>if k=i then (fr,h) else st k,λk=>if k=i then unit else vl k,ft,λk=>if k=i then Oc else ex k,by simp,⟨?_, ?_, ?_⟩, ?_⟩
      · intro k o' hk ho';by_cases e:k=i
        · subst e;rw [hoi] at ho'; cases ho';left;simp only [if_true,if_neg (show ¬ (k+1=k) by omega)];exact ⟨trivial,hw,trivial,s1⟩
        · simp only [if_neg e,if_neg (show ¬ (k+1=i) by omega)];exact s2.step k o' J ho'
      · intro j k hj hjk hk hek hej;simp only [if_neg (show ¬ k=i by omega)] at hek;by_cases e:j=i
        · subst e; simp at hej
        · simp only [if_neg e] at hej;exact s2.apart j k J hjk hk hek hej
      · intro p hp k hk hkl hek;by_cases e:k=i
        · subst e; simp at hek
        · simp only [if_neg e] at hek;exact s2.apartD p hp k J hkl hek
      · show (if i+(o::rest).length=i then (fr,h) else st (i+(o::rest).length))=_;rw [if_neg Ol,show i+(o::rest).length=i+1+rest.length from by simp; omega];exact s3
    · cases hl
theorem zml {ev:Operand->zd} {o:Oper} {h:za} {v:zd} {h':za} (hl:aop T ev h o.op=Ob (.val v h')):(foot ev o).rall=Oc/\(foot ev o).wall=Oc:=by
 unfold foot;cases ho:o.op<;>try exact ⟨rfl,rfl⟩
 rename_i c;rw [ho] at hl;simp only [aop,zc1] at hl;cases hc:c.callee with
 | builtin b=>simp only [hc]; cases b<;>simp
 | value f=>rw [hc] at hl; cases hl
 | invoke r m=>rw [hc] at hl; cases hl
theorem zig {ev:Operand->zd} {o:Oper} {h:za} {f:zd} {as:List zd} (hl:aop T ev h o.op=Ob (.call f as)):foot ev o=⟨[],Od,[],Oc⟩:=by
 obtain ⟨c,fo,h1,h2,_⟩:=zc2 hl;unfold foot;rw [h1];simp only [h2]
end
open Classical
theorem H0.congr {base:Nat} {G:Emb} {h h2:za} {w:World} (hr:H0 base G h w) (e:∀ b l,G b=Ob l->h2.get b=h.get b):H0 base G h2 w:=by
 have ow:∀ b l,G b=Ob l->(Owns h2 b↔Owns h b):=λb l hb=>by unfold Owns; rw [e b l hb]
 have al:∀ b l,G b=Ob l->(Alive h2 b↔Alive h b):=λb l hb=>by unfold Alive; rw [e b l hb]
 exact ⟨hr.clt,λb l hb=>by rw [e b l hb]; exact hr.blk b l hb,λb b' l l' hb hb' hn ho ha=>hr.inj b b' l l' hb hb' hn ((ow b l hb).1 ho) ((al b' l' hb').1 ha),hr.base⟩
structure Core (G:Emb) (h:za) (w:World) (G':Emb) (h':za) (w':World):Prop where
 ext:Ext G G'
 size:w.heap.size<=w'.heap.size
 frame:∀ k,k<w.heap.size->(∀ b l,G b=Ob l->Owns h b->l.c≠k)->w'.heap[k]?=w.heap[k]?
 own:∀ b l,G' b=Ob l->Alive h' b->(G b=Ob l/\Alive h b/\(Owns h' b->Owns h b))\/w.heap.size<=l.c\/∃ b0 l0,G b0=Ob l0/\Owns h b0/\l0.c=l.c
 os:w'.os=w.os
 tape:w'.tape=w.tape
 output:w'.output=w.output
 loops:∀ b l L,G b=Ob l->h.get b=Ob (.loop L)->∃ L',h'.get b=Ob (.loop L')/\zj5 L L'
theorem Trans.core {G G':Emb} {h h':za} {w w':World} (t:Trans G h w G' h' w'):Core G h w G' h' w':=⟨t.ext,t.size,t.frame,t.own,t.os,t.tape,t.output,t.loops⟩
theorem Core.refl (G:Emb) (h:za) (w:World):Core G h w G h w:=(Trans.refl G h w).core
theorem Core.trans {G G₁ G₂:Emb} {h h₁ h₂:za} {w w₁ w₂:World} (a:Core G h w G₁ h₁ w₁) (b:Core G₁ h₁ w₁ G₂ h₂ w₂):Core G h w G₂ h₂ w₂:=by
 refine ⟨a.ext.trans b.ext,Nat.le_trans a.size b.size,λk hk hb=>?_,λb' l hb' ho=>?_,b.os.trans a.os,b.tape.trans a.tape,b.output.trans a.output,
  λb' l L hb hg=>let ⟨L1,h1,s1⟩:=a.loops b' l L hb hg; let ⟨L2,h2,s2⟩:=b.loops b' l L1 (a.ext _ _ hb) h1; ⟨L2,h2,s1.trans s2⟩⟩
 . rw [b.frame k (Nat.lt_of_lt_of_le hk a.size) ?_,a.frame k hk hb];intro b1 l1 hb1 ho1 e;rcases a.own b1 l1 hb1 ho1.alive with ⟨h0,_,h2⟩ | h1 | ⟨b0,l0,h0,ho0,e0⟩
   . exact hb b1 l1 h0 (h2 ho1) e
   . omega
   . exact hb b0 l0 h0 ho0 (e0.trans e)
 . rcases b.own b' l hb' ho with ⟨h1,h2,h3⟩ | h1 | ⟨b1,l1,h1,ho1,e1⟩
   . rcases a.own b' l h1 h2 with ⟨g1,g2,g3⟩ | g1 | g1
     . exact .inl ⟨g1,g2,λq=>g3 (h3 q)⟩
     . exact .inr (.inl g1)
     . exact .inr (.inr g1)
   . exact .inr (.inl (Nat.le_trans a.size h1))
   . rcases a.own b1 l1 h1 ho1.alive with ⟨g1,g2,g3⟩ | h2 | ⟨b0,l0,h0,ho0,e0⟩
     . exact .inr (.inr ⟨b1,l1,g1,g3 ho1,e1⟩)
     . exact .inr (.inl (by rw [← e1]; exact h2))
     . exact .inr (.inr ⟨b0,l0,h0,ho0,e0.trans e1⟩)
theorem Core.congr {G G':Emb} {h h' g g':za} {w w':World} (t:Core G h w G' h' w') (e:∀ b l,G b=Ob l->g.get b=h.get b) (e':∀ b l,G' b=Ob l->g'.get b=h'.get b):Core G g w G' g' w':=by
 have ow:∀ b l,G b=Ob l->(Owns g b↔Owns h b):=λb l hb=>by unfold Owns; rw [e b l hb]
 have al:∀ b l,G b=Ob l->(Alive g b↔Alive h b):=λb l hb=>by unfold Alive; rw [e b l hb]
 have ow':∀ b l,G' b=Ob l->(Owns g' b↔Owns h' b):=λb l hb=>by unfold Owns; rw [e' b l hb]
 have al':∀ b l,G' b=Ob l->(Alive g' b↔Alive h' b):=λb l hb=>by unfold Alive; rw [e' b l hb]
 refine ⟨t.ext,t.size,λk hk hb=>t.frame k hk (λb l h1 h2=>hb b l h1 ((ow b l h1).2 h2)),λb l hb ha=>?_,t.os,t.tape,t.output,λb l L hb hg=>?_⟩
 . rcases t.own b l hb ((al' b l hb).1 ha) with ⟨h1,h2,h3⟩ | h1 | ⟨b0,l0,h1,h2,h3⟩
   . exact .inl ⟨h1,(al b l h1).2 h2,λq=>(ow b l h1).2 (h3 ((ow' b l hb).1 q))⟩
   . exact .inr (.inl h1)
   . exact .inr (.inr ⟨b0,l0,h1,(ow b0 l0 h1).2 h2,h3⟩)
 . rw [e b l hb] at hg;obtain ⟨L',h1,h2⟩:=t.loops b l L hb hg;exact ⟨L',by rw [e' b l (t.ext _ _ hb)]; exact h1,h2⟩
theorem zvX (g:Nat->Option zfS) (nx:Nat):∀ B:Nat,∃ h:za,h.next=nx/\∀ b,h.get b=if b<B then g b else Oe
 | 0=>⟨⟨.leaf,nx,0⟩,rfl,λb=>by simp [za.get,Tr.get]⟩
 | B+1=>by
  obtain ⟨h,h1,h2⟩:=zvX g nx B;cases hg:g B with
  | none=>
   refine ⟨h,h1,λb=>?_⟩;rw [h2];by_cases e:b=B
   ·subst e; simp [hg]
   ·by_cases q:b<B
    ·rw [if_pos q,if_pos J]
    ·rw [if_neg q,if_neg J]
  | some x=>
   refine ⟨h.set B x,h1,λb=>?_⟩;rw [za.get_set,h2];by_cases e:b=B
   ·subst e; simp [hg]
   ·rw [if_neg e];by_cases q:b<B
    ·rw [if_pos q,if_pos J]
    ·rw [if_neg q,if_neg J]
section
variable (os:List Oper) (st:Nat->zi×za) (vl:Nat->zd)
def zgy (m:Nat):Option Nat:=(os[m]?).bind (λ(o:Oper)=>o.dst)
def fcont (S:Nat->Prop):Nat->Nat->zd
 | 0,t=>(st 0).1.ev t
 | m+1,t=>if S m/\zgy os m=Ob t then vl m else fcont S m t
def Chg (m b:Nat):Prop:=b<(st (m+1)).2.next/\((st m).2.next<=b\/(st (m+1)).2.get b≠(st m).2.get b)
def hcont (S:Nat->Prop):Nat->Nat->Option zfS
 | 0,b=>(st 0).2.get b
 | m+1,b=>if S m/\Chg st m b then (st (m+1)).2.get b else hcont S m b
variable {os st vl}
theorem ziP {S:Nat->Prop} {t:Nat}:∀ (i:Nat),(∀ m,m<i->(st (m+1)).1.ev t=if zgy os m=Ob t then vl m else (st m).1.ev t)->(∀ m,m<i->zgy os m=Ob t->S m)->fcont os st vl S i t=(st i).1.ev t
 | 0,_,_=>rfl
 | i+1,hs,h=>by
  simp only [fcont];rw [hs i J,ziP i (λm hm=>hs m J) (λm hm=>h m J)];by_cases e:zgy os i=Ob t
  . rw [if_pos ⟨h i J e,e⟩,if_pos e]
  . rw [if_neg (λq=>e q.2),if_neg e]
theorem zlE {S:Nat->Prop} {t i:Nat}:∀ (N:Nat),i<=N->(∀ m,i<=m->m<N->S m->zgy os m≠Ob t)->fcont os st vl S N t=fcont os st vl S i t
  | 0,hi,_=>by
      have:i=0:=J
      subst this; rfl
  | N+1,hi,h=>by
    by_cases e:i=N+1
    · rw [e]
    · simp only [fcont];rw [if_neg (λq=>h N J J q.1 q.2)];exact zlE N J (λm h1 h2=>h m h1 J)
theorem zkh {S:Nat->Prop} {i t:Nat} (hi:¬ S i):∀ (N:Nat),(zgy os i≠Ob t->fcont os st vl (λx=>S x\/x=i) N t=fcont os st vl S N t) /\
    (zgy os i=Ob t->i<N->(∀ m,i<m->m<N->S m->zgy os m≠Ob t)->fcont os st vl (λx=>S x\/x=i) N t=vl i)
  | 0=>⟨λ_=>rfl,λ_ h=>by omega⟩
  | N+1=>by
    obtain ⟨h1,h2⟩:=zkh hi N;refine ⟨λhd=>?_,λhd hN hm=>?_⟩
    · simp only [fcont];rw [h1 hd];by_cases e:N=i
      · subst e;rw [if_neg (λq=>hd q.2),if_neg (λq=>hd q.2)]
      · by_cases q:S N/\zgy os N=Ob t
        · rw [if_pos ⟨.inl q.1,q.2⟩,if_pos q]
        · rw [if_neg (λq2=>q ⟨q2.1.resolve_right e,q2.2⟩),if_neg q]
    · simp only [fcont];by_cases e:N=i
      · subst e; rw [if_pos ⟨.inr rfl,hd⟩]
      · rw [if_neg (λq=>hm N J J (q.1.resolve_right e) q.2)];exact h2 hd J (λm a b=>hm m a J)
theorem ziQ {S:Nat->Prop} {b:Nat}:∀ (i:Nat),(b<(st i).2.next)->(∀ m,m<i->(st m).2.next<=(st (m+1)).2.next)->(∀ m,m<i->Chg st m b->S m)->hcont st S i b=(st i).2.get b
 | 0,_,_,_=>rfl
 | i+1,hb,hmono,h=>by
  simp only [hcont];by_cases c:Chg st i b
  . rw [if_pos ⟨h i J c,c⟩]
  . rw [if_neg (λq=>c q.2)];unfold Chg at c;have c1:b<(st i).2.next:=by
     by_cases q:b<(st i).2.next
     . exact q
     . exact absurd ⟨hb,.inl J⟩ c
    have c2:(st (i+1)).2.get b=(st i).2.get b:=by
     by_cases q:(st (i+1)).2.get b=(st i).2.get b
     . exact q
     . exact absurd ⟨hb,.inr q⟩ c
    rw [ziQ i c1 (λm hm=>hmono m J) (λm hm=>h m J),c2]
theorem zlF {S:Nat->Prop} {b i:Nat}:∀ (N:Nat),i<=N->(∀ m,i<=m->m<N->S m->¬ Chg st m b)->hcont st S N b=hcont st S i b
  | 0,hi,_=>by
      have:i=0:=J
      subst this; rfl
  | N+1,hi,h=>by
    by_cases e:i=N+1
    · rw [e]
    · simp only [hcont];rw [if_neg (λq=>h N J J q.1 q.2)];exact zlF N J (λm h1 h2=>h m h1 J)
theorem zeo {S:Nat->Prop} {i b:Nat} (hi:¬ S i):∀ (N:Nat),(¬ Chg st i b->hcont st (λx=>S x\/x=i) N b=hcont st S N b) /\
    (Chg st i b->i<N->(∀ m,i<m->m<N->S m->¬ Chg st m b)->hcont st (λx=>S x\/x=i) N b=(st (i+1)).2.get b)
  | 0=>⟨λ_=>rfl,λ_ h=>by omega⟩
  | N+1=>by
    obtain ⟨h1,h2⟩:=zeo hi N;refine ⟨λhd=>?_,λhd hN hm=>?_⟩
    · simp only [hcont];rw [h1 hd];by_cases e:N=i
      · subst e;rw [if_neg (λq=>hd q.2),if_neg (λq=>hd q.2)]
      · by_cases q:S N/\Chg st N b
        · rw [if_pos ⟨.inl q.1,q.2⟩,if_pos q]
        · rw [if_neg (λq2=>q ⟨q2.1.resolve_right e,q2.2⟩),if_neg q]
    · simp only [hcont];by_cases e:N=i
      · subst e; rw [if_pos ⟨.inr rfl,hd⟩]
      · rw [if_neg (λq=>hm N J J (q.1.resolve_right e) q.2)];exact h2 hd J (λm a b=>hm m a J)
end
end Go.Ai
namespace Go.Ai
open Classical
theorem zki {a b:List Nat} (h:disj a b=Od) {x:Nat} (hx:x∈a):x∉b:=by
 have:=List.all_eq_true.1 h x hx;simpa using this
structure Clear (f:Foot) (x:Nat):Prop where
 rd:x∉f.rd
 wr:x∉f.wr
 rall:f.rall=Oc
 wall:f.wall=Oc
theorem zqy {a b:Foot} (h:a.apart b=Od) {x:Nat} (hx:x∈a.wr\/a.wall=Od):Clear b x:=by
 unfold Foot.apart at h;simp only [Bool.and_eq_true,Bool.or_eq_true,Bool.not_eq_true',List.isEmpty_iff] at h;obtain ⟨⟨⟨⟨⟨⟨h1,h2⟩,h3⟩,h4⟩,h5⟩,h6⟩,h7⟩:=h;rcases hx with hx | hx
 . have hne:¬ a.wr=[]:=λq=>by rw [q] at hx; cases hx
   refine ⟨zki h1 hx,zki h2 hx, ?_, ?_⟩
   . rcases h7 with q | q
     . exact q
     . exact absurd q.1 hne
   . rcases h5 with q | q
     . exact q
     . exact absurd q.1.1.2 hne
 . rcases h4 with q | q
   . rw [hx] at q; cases q
   . obtain ⟨⟨⟨q1,q2⟩,q3⟩,q4⟩:=q;exact ⟨by rw [q1]; simp,by rw [q2]; simp,q3,q4⟩
theorem zoA {a b:Foot} (h:a.apart b=Od) {x:Nat} (hx:x∈b.wr\/b.wall=Od):Clear a x:=by
 unfold Foot.apart at h;simp only [Bool.and_eq_true,Bool.or_eq_true,Bool.not_eq_true',List.isEmpty_iff] at h;obtain ⟨⟨⟨⟨⟨⟨h1,h2⟩,h3⟩,h4⟩,h5⟩,h6⟩,h7⟩:=h;rcases hx with hx | hx
 . have hne:¬ b.wr=[]:=λq=>by rw [q] at hx; cases hx
   refine ⟨λq=>zki h3 q hx,λq=>zki h2 q hx, ?_, ?_⟩
   . rcases h6 with q | q
     . exact q
     . exact absurd q.1 hne
   . rcases h4 with q | q
     . exact q
     . exact absurd q.1.1.2 hne
 . rcases h5 with q | q
   . rw [hx] at q; cases q
   . obtain ⟨⟨⟨q1,q2⟩,q3⟩,q4⟩:=q;exact ⟨by rw [q1]; simp,by rw [q2]; simp,q3,q4⟩
theorem znp {ev:Operand->zd} {o:Oper} {b:Nat} (h:b∈(foot ev o).rd\/b∈(foot ev o).wr):∃ a∈o.op.operands.toList,b∈zS (ev a):=by
  unfold foot at h;have fl:∀ (c:Call),b∈(c.args.toList.map ev).flatMap zS->∃ a∈(Op.call c).operands.toList,b∈zS (ev a):=by
    intro c hb;obtain ⟨v,hv,hb⟩:=List.mem_flatMap.1 hb;obtain ⟨a,ha,rfl⟩:=List.mem_map.1 hv;exact ⟨a,by simp only [Op.operands,Call.operands,Array.toList_append,List.mem_append]; exact .inr ha,hb⟩
  cases ho:o.op<;>rw [ho] at h<;>simp only at h<;>(try (simp at h; done))
  case load t a=>exact ⟨a,by simp [Op.operands],by simpa using h⟩
  case store t a x=>exact ⟨a,by simp [Op.operands],by simpa using h⟩
  case lookup t x ix ok=>exact ⟨x,by simp [Op.operands],by simpa using h⟩
  case mapUpdate t m k x=>exact ⟨m,by simp [Op.operands],by simpa using h⟩
  case insert t m k x=>exact ⟨m,by simp [Op.operands],by simpa using h⟩
  case call c=>
    apply fl c;cases hc:c.callee with
    | value f=>rw [hc] at h; simp at h
    | invoke r m=>rw [hc] at h; simp at h
    | builtin bb=>
      rw [hc] at h;have hmap:∀ xs:List zd,b∈xs.flatMap zon->b∈xs.flatMap zS:=by
        intro xs hx;obtain ⟨v,hv,hb⟩:=List.mem_flatMap.1 hx;refine List.mem_flatMap.2 ⟨v,hv, ?_⟩;cases v<;>simp [zon] at hb;simp [zS,hb]
      have hsub:∀ (xs ys:List zd),(∀ y∈ys,y∈xs)->b∈ys.flatMap zS->b∈xs.flatMap zS:=by
        intro xs ys hy hx;obtain ⟨v,hv,hb⟩:=List.mem_flatMap.1 hx;exact List.mem_flatMap.2 ⟨v,hy v hv,hb⟩
      cases bb<;>simp only at h<;>(try (simp at h; done))
      case len=>
          rcases h with h | h
          · exact hmap _ h
          · cases h
      case append=>
          rcases h with h | h
          · exact hsub _ _ (λy hy=>List.mem_of_mem_drop hy) h
          · exact hsub _ _ (λy hy=>List.mem_of_mem_take hy) h
      case copy=>
          rcases h with h | h
          · exact hsub _ _ (λy hy=>List.mem_of_mem_drop hy) h
          · exact hsub _ _ (λy hy=>List.mem_of_mem_take hy) h
theorem znq {G:Emb} {v:zd} {v':Value} (h:zal G v v') {b:Nat} (hb:b∈zS v):∃ l,G b=Ob l:=by
 cases h<;>simp [zS] at hb
 . subst hb; exact ⟨_,by assumption⟩
 . subst hb; exact ⟨_,by assumption⟩
 . subst hb; exact ⟨_,by assumption⟩
def inter (G Gi:Emb):Emb:=λb=>if (Gi b).isSome then G b else Oe
theorem zhl {G Gi:Emb} {b:Nat} {l li:Loc} (h:G b=Ob l) (hi:Gi b=Ob li):inter G Gi b=Ob l:=by
 unfold inter; rw [hi]; simpa using h
theorem zep {G Gi:Emb} {b:Nat} {l:Loc} (h:inter G Gi b=Ob l):G b=Ob l/\∃ li,Gi b=Ob li:=by
 unfold inter at h;cases hi:Gi b with
 | none=>rw [hi] at h; simp at h
 | some li=>rw [hi] at h; simp at h; exact ⟨h,li,rfl⟩
theorem zm4.inter {G Gi:Emb} {f f' f'':Fn} (h:zm4 G f f') (hi:zm4 Gi f f''):zm4 (inter G Gi) f f':=by
 rcases h with ⟨l,l',rfl,rfl,loc,hl,hc⟩ | ⟨g,rfl,rfl⟩
 . rcases hi with ⟨l2,l2',e,rfl,loc2,hl2,_⟩ | ⟨g,e,_⟩
   . cases e;exact .inl ⟨_,_,rfl,rfl,loc,zhl hl hl2,hc⟩
   . cases e
 . exact .inr ⟨_,rfl,rfl⟩
theorem zal.inter {G Gi:Emb} {v:zd} {x:Value} (h:zal G v x):∀ {y:Value},zal Gi v y->zal (inter G Gi) v x:=by
 induction h with
 | undef v=>intro y _; exact .undef v
 | bool b=>intro y _; exact .bool b
 | int k n=>intro y _; exact .int k n
 | float k b=>intro y _; exact .float k b
 | str s=>intro y _; exact .str s
 | ptr b off l h=>intro y hy; cases hy with | ptr _ _ l2 h2=>exact .ptr b off l (zhl h h2)
 | nq=>intro y _; exact .nq
 | slice b off len es cap l a ccap h hlen hcap hoff=>intro y hy; cases hy with | slice _ _ _ _ _ l2 _ _ h2 _ _ _=>exact .slice b off len es cap l a ccap (zhl h h2) hlen hcap hoff
 | nsz=>intro y _; exact .nsz
 | map r l h=>intro y hy; cases hy with | map _ l2 h2=>exact .map r l (zhl h h2)
 | nm=>intro y _; exact .nm
 | func fn fn' f c f' c' hfn hf hc _ _ ihf ihc=>
  intro y hy;cases hy with
  | func _ fn2 _ _ f2 c2 hfn2 hf2 hc2 hfs2 hcs2=>
   refine .func fn fn' f c f' c' (hfn.inter hfn2) hf hc (λi v v' hv hv'=>?_) (λi v v' hv hv'=>?_)
   ·have hlt:i<f2.size:=by rw [← hf2]; exact (List.getElem?_eq_some_iff.1 hv).1
    exact ihf i v v' hv hv' (hfs2 i v _ hv (Array.getElem?_eq_getElem hlt))
   ·have hlt:i<c2.size:=by rw [← hc2]; exact (List.getElem?_eq_some_iff.1 hv).1
    exact ihc i v v' hv hv' (hcs2 i v _ hv (Array.getElem?_eq_getElem hlt))
 | nfz=>intro y _; exact .nfz
 | iface t v v' _ ih=>intro y hy; cases hy with | iface _ _ _ h2=>exact .iface t v v' (ih h2)
 | ni=>intro y _; exact .ni
 | agg cs cs' hl _ ih=>
  intro y hy;cases hy with
  | agg _ c2 hl2 hs2=>
   refine .agg cs cs' hl (λi v v' hv hv'=>?_);have hlt:i<c2.size:=by rw [← hl2]; exact (List.getElem?_eq_some_iff.1 hv).1
   exact ih i v v' hv hv' (hs2 i v _ hv (Array.getElem?_eq_getElem hlt))
 | tuple cs cs' hl _ ih=>
  intro y hy;cases hy with
  | tuple _ c2 hl2 hs2=>
   refine .tuple cs cs' hl (λi v v' hv hv'=>?_);have hlt:i<c2.size:=by rw [← hl2]; exact (List.getElem?_eq_some_iff.1 hv).1
   exact ih i v v' hv hv' (hs2 i v _ hv (Array.getElem?_eq_getElem hlt))
theorem zoo.inter {base:Nat} {G Gi:Emb} {x:Option zfS} {l l':Loc} {w w':World} (h:zoo base G x l w) (hi:zoo base Gi x l' w'):zoo base (inter G Gi) x l w:=by
 unfold zoo at h hi ⊢;split
 . obtain ⟨cc,el,fz,h1,h2,h3,h4,h5⟩:=h;obtain ⟨_,_,_,_,_,_,g4,_⟩:=hi;exact ⟨cc,el,fz,h1,h2,h3,λi v hv=>by
    obtain ⟨v',a,b⟩:=h4 i v hv;obtain ⟨_,_,c⟩:=g4 i v hv;exact ⟨v',a,b.inter c⟩,h5⟩
 . obtain ⟨h0,ces,clk,h1,h2,h3⟩:=h;obtain ⟨_,_,_,_,_,g3⟩:=hi;exact ⟨h0,ces,clk,h1,h2,λi k v hv=>by
    obtain ⟨en,a,b,c⟩:=h3 i k v hv;obtain ⟨_,_,b2,c2⟩:=g3 i k v hv;exact ⟨en,a,b.inter b2,c.inter c2⟩⟩
 . obtain ⟨h0,L',h1,h2⟩:=h;obtain ⟨_,L2,_,g2⟩:=hi;exact ⟨h0,L',h1,⟨h2.state,h2.pending,h2.params,h2.assign,h2.body,λt=>(h2.frame t).inter (g2.frame t),h2.okP,h2.okA,h2.okB⟩⟩
 . trivial
 . exact h.elim
theorem zlG {G:Emb} {fr:zi} {tmps:Array Value} {ops:Array Oper} {o:Oper} {b:Bool} (hf:∀ d∈looks ops.toList o,zal G (fr.ev d) (tmps.getD d undef)) (hsz:∀ o∈ops.toList,∀ d,o.dst=Ob d->d<tmps.size) (hl:awanted ops.toList fr o.guard=Ob b):Region.wanted o (yielded ops tmps)=b:=by
 unfold awanted at hl;unfold Region.wanted;split at hl
 ·rename_i hg; simp at hl; subst hl; simp [hg]
 ·rename_i j want hg;simp only [hg];unfold yielded;have hl0:=hl;rw [Array.getElem?_toList] at hl;cases hd:(ops[j]?).bind (λo=>o.dst) with
  | none=>rw [hd] at hl; simp at hl; subst hl; simp
  | some d=>
   rw [hd] at hl;simp only at hl;have hlt:d<tmps.size:=by
    cases ho:ops[j]? with
    | none=>rw [ho] at hd; cases hd
    | some o'=>
     rw [ho] at hd;exact hsz o' (by rw [Array.mem_toList_iff]; exact Array.mem_of_getElem? ho) d hd
   have hv:=hf d (by
    unfold looks;refine List.mem_append.2 (.inr ?_);rw [hg];simp only [Array.getElem?_toList,hd];simp)
   have e:tmps.getD d undef=tmps[d]:=by simp [Array.getD,hlt]
   rw [e] at hv;simp only [Zs,Array.getElem?_eq_getElem hlt];generalize tmps[d]=y at hv;generalize fr.ev d=x at hv hl;cases hv<;>simp at hl<;>subst hl<;>simp
end Go.Ai
namespace Go.Ai
open Classical
structure Setup (T:Tab) (P:Program) (base:Nat) (call:Caller) (ops:Array Oper) (n:Nat) (st:Nat->zi×za) (vl:Nat->zd) (ft:Nat->Foot) (ex:Nat->Bool):Prop where
 ok:T.Ok P
 hc:zlA P base call
 hk:zfA call
 hops:zrA n ops
 hslots:ziK ops.toList ops.toList 0=Od
 tr:zoz T call ops.toList st vl ft ex 0 []
 run:∀ i,i<=ops.size->∃ Gi ti wi,ti.size=n/\zj4 Gi (st i).1 ti/\zeV base Gi (st i).2 wi
section
variable {T:Tab} {P:Program} {base:Nat} {call:Caller} {ops:Array Oper} {n:Nat} {st:Nat->zi×za} {vl:Nat->zd} {ft:Nat->Foot} {ex:Nat->Bool}
theorem zeV.wm {G:Emb} {h:za} {w:World} (hr:zeV base G h w) (x:Nat):zeV base G { h with wm:=x } w:=
 ⟨hr.toH0.congr (λ_ _ _=>rfl),hr.lt⟩
theorem zpn (ok:T.Ok P) (hc:zlA P base call) (hops:zrA n ops) (tr:zoz T call ops.toList st vl ft ex 0 []) {G:Emb} {tmps:Array Value} {w:World} (hsz:tmps.size=n) (hf:zj4 G (st 0).1 tmps) (hr:zeV base G (st 0).2 w) :
    ∀ i,i<=ops.size->∃ Gi ti wi,ti.size=n/\zj4 Gi (st i).1 ti/\zeV base Gi (st i).2 wi
  | 0,_=>⟨G,tmps,w,hsz,hf,hr⟩
  | i+1,hi=>by
    obtain ⟨Gi,ti,wi,h1,h2,h3⟩:=zpn ok hc hops tr hsz hf hr i J;have hlt:i<ops.size:=J
    have hoi:ops[i]?=Ob ops[i]:=Array.getElem?_eq_getElem hlt;have hol:ops.toList[i]?=Ob ops[i]:=by simp [hlt]
    have hmem:ops[i]∈ops.toList:=List.mem_of_getElem? hol;obtain ⟨hdst,hsv⟩:=hops _ hmem;have hall:∀ o∈ops.toList,∀ d,o.dst=Ob d->d<ti.size:=λo' ho' d hd'=>by rw [h1]; exact (hops o' ho').1 d hd'
    rcases tr.step i _ (Nat.zero_le _) hol with ⟨_,_,_,e⟩ | ⟨_,hw,h',hst,_,e⟩
    · rw [e];exact ⟨Gi,zlx ti ops[i].dst undef,wi,by rw [zf9]; exact h1,h2.putDst (λd hd=>hall _ hmem d hd) (.tuple' (.nil _)),h3⟩
    · have hwant:=znf h2 hall hw;obtain ⟨r',w',G',hrel,hr',ht',_⟩:=zpl ok hc h2 (h3.wm _) hst hsv hoi hwant 0 .normal Oe [] [] [] [];cases r' with
      | pan _=>exact hrel.elim
      | ret v'=>
        rw [e];exact ⟨G',zlx ti ops[i].dst v',w',by rw [zf9]; exact h1,(h2.mono ht'.ext).putDst (λd hd=>hall _ hmem d hd) hrel,hr'.wm _⟩
variable (s:Setup T P base call ops n st vl ft ex)
include s
theorem Setup.ev {m t:Nat} (hm:m<ops.size):(st (m+1)).1.ev t=if zgy ops.toList m=Ob t then vl m else (st m).1.ev t:=by
 have hol:ops.toList[m]?=Ob ops[m]:=by simp [hm]
 have hd:zgy ops.toList m=ops[m].dst:=by unfold zgy; rw [hol]; rfl
 have key:∀ v,zi.ev (putDst (st m).1 ops[m].dst v) t=if zgy ops.toList m=Ob t then v else (st m).1.ev t:=by
  intro v;rw [hd];cases h:ops[m].dst with
  | none=>simp [putDst]
  | some d=>
   simp only [putDst,zi.ev_set,Option.some.injEq];by_cases e:t=d
   . subst e; simp
   . rw [if_neg e,if_neg (λq=>e q.symm)]
 rcases s.tr.step m _ (Nat.zero_le _) hol with ⟨_,_,hv,e⟩ | ⟨_,hw,h',hst,_,e⟩
 . rw [e,hv]; exact key _
 . rw [e]; exact key _
theorem Setup.mono1 {m:Nat} (hm:m<ops.size):(st m).2.next<=(st (m+1)).2.next:=by
 have hol:ops.toList[m]?=Ob ops[m]:=by simp [hm]
 rcases s.tr.step m _ (Nat.zero_le _) hol with ⟨_,_,hv,e⟩ | ⟨_,hw,h',hst,_,e⟩
 . rw [e]; exact Nat.le_refl _
 . rw [e]; exact (zgx s.hk hst).1
theorem Setup.mono {m k:Nat} (hmk:m<=k) (hk:k<=ops.size):(st m).2.next<=(st k).2.next:=by
  induction k with
  | zero=>
      have:m=0:=J
      subst this; exact Nat.le_refl _
  | succ k ih=>
    by_cases e:m=k+1
    · subst e; exact Nat.le_refl _
    · exact Nat.le_trans (ih J J) (s.mono1 J)
theorem Setup.chg {m b:Nat} (hm:m<ops.size) (hb:b<(st m).2.next) (hne:(st (m+1)).2.get b≠(st m).2.get b):ex m=Od/\(b∈(ft m).wr\/(ft m).wall=Od):=by
 have hol:ops.toList[m]?=Ob ops[m]:=by simp [hm]
 rcases s.tr.step m _ (Nat.zero_le _) hol with ⟨_,_,hv,e⟩ | ⟨hex,hw,h',hst,hft,e⟩
 . rw [e] at hne; exact absurd rfl hne
 . refine ⟨hex, ?_⟩;rw [e] at hne;have hne:h'.get b≠(st m).2.get b:=hne;unfold astep at hst;split at hst
   . rename_i v h2 ha;cases hst;obtain ⟨f1,f2⟩:=zml ha;obtain ⟨h2',g1,g2⟩:=znn ha rfl (λ_ _=>rfl);rw [ha] at g1; cases g1;have hf:ft m=foot (st m).1.op ops[m]:=by rw [hft]; unfold zfT; rw [f1]; rfl
     rw [hf];rcases g2.2.2 b with ⟨q,_⟩ | ⟨_,q | ⟨q,_⟩⟩
     . exact absurd q hne
     . exact .inl q
     . exact absurd hb (by rw [q]; exact Nat.lt_irrefl _)
   . rename_i f as ha;have hf:ft m=zfT ⟨[],Od,[],Oc⟩ (st m).2 h':=by rw [hft,zig ha]
     right;rw [hf];unfold zfT;simp only [cond_true];cases hb2:Nat.ble (st m).2.next h'.wm with
     | false=>rfl
     | true=>
      exfalso;have hle:=Nat.le_of_ble_eq_true hb2;have:=(s.hk _ _ _ _ _ hst).2.2 b hb (Nat.lt_of_lt_of_le hb hle);exact hne this
   . cases hst
theorem Setup.range_unique {m k b:Nat} (hm:m<ops.size) (hk:k<ops.size) (h1:(st m).2.next<=b) (h2:b<(st (m+1)).2.next) (h3:(st k).2.next<=b) (h4:b<(st (k+1)).2.next):m=k:=by
 rcases Nat.lt_trichotomy m k with q | q | q
 . have:=s.mono (m:=m+1) (k:=k) J J; omega
 . exact q
 . have:=s.mono (m:=k+1) (k:=m) J J; omega
end
structure Inv (base:Nat) (ops:Array Oper) (n:Nat) (st:Nat->zi×za) (vl:Nat->zd) (G0:Emb) (w0:World) (S:Nat->Prop) (G:Emb) (tmps:Array Value) (w:World) (hS:za):Prop where
 closed:Closed ops S
 lt:∀ i,S i->i<ops.size
 size:tmps.size=n
 frame:∀ t,zal G (fcont ops.toList st vl S ops.size t) (tmps.getD t undef)
 cont:∀ b l,G b=Ob l->hS.get b=hcont st S ops.size b
 heap:H0 base G hS w
 core:Core G0 (st 0).2 w0 G hS w
 dom:∀ b l,G b=Ob l->G0 b=Ob l\/∃ m,S m/\(st m).2.next<=b/\b<(st (m+1)).2.next
 junk:∀ m b,S m->b<(st m).2.next->G b=Oe->(st (m+1)).2.get b=(st m).2.get b
section
variable {T:Tab} {P:Program} {base:Nat} {call:Caller} {ops:Array Oper} {n:Nat} {st:Nat->zi×za} {vl:Nat->zd} {ft:Nat->Foot} {ex:Nat->Bool}
variable {G0:Emb} {w0:World} {S:Nat->Prop} {G:Emb} {tmps:Array Value} {w:World} {hS:za}
variable (s:Setup T P base call ops n st vl ft ex) (hl0:∀ b l,G0 b=Ob l->b<(st 0).2.next) (inv:Inv base ops n st vl G0 w0 S G tmps w hS)
variable {i:Nat} (hi:i<ops.size) (hn:¬ S i) (hp:preds ops S i)
include s inv hi hn hp in
theorem zrE {o:Oper} (ho:ops.toList[i]?=Ob o) {t:Nat} (ht:t∈looks ops.toList o):fcont ops.toList st vl S ops.size t=(st i).1.ev t:=by
 rw [zlE (i:=i) ops.size J ?_,ziP i (λm hm=>s.ev J) ?_]
 . intro m hm hd;have hml:m<ops.size:=J
   have hom:ops.toList[m]?=Ob ops[m]:=by simp [hml]
   rcases zfV ops.toList ops.toList 0 s.hslots i o ho m ops[m] J hom with q | q
   . exfalso;have hd':ops[m].dst=Ob t:=by unfold zgy at hd; rw [hom] at hd; exact hd
     unfold zfu at q;rw [hd'] at q;simp only [Bool.and_eq_true] at q;have:=q.1.1;simp at this;exact this ht
   . rw [Nat.zero_add] at q;exact zen inv.closed hp q
 . intro m h1 h2 hm hd;have hne:m≠i:=λe=>hn (e▸hm);have hom:ops.toList[m]?=Ob ops[m]:=by simp [h2]
   rcases zfV ops.toList ops.toList 0 s.hslots m ops[m] hom i o J ho with q | q
   . have hd':ops[m].dst=Ob t:=by unfold zgy at hd; rw [hom] at hd; exact hd
     unfold zfu at q;rw [hd'] at q;simp only [Bool.and_eq_true] at q;have:=q.2;simp at this;exact this ht
   . rw [Nat.zero_add] at q;exact hn (zen inv.closed (inv.closed m hm) q)
include s inv hn in
theorem zue {o:Oper} (ho:ops.toList[i]?=Ob o) {t:Nat} (ht:o.dst=Ob t):∀ m,i<m->m<ops.size->S m->zgy ops.toList m≠Ob t:=by
 intro m h1 h2 hm hd;have hom:ops.toList[m]?=Ob ops[m]:=by simp [h2]
 rcases zfV ops.toList ops.toList 0 s.hslots m ops[m] hom i o J ho with q | q
 . have hd':ops[m].dst=Ob t:=by unfold zgy at hd; rw [hom] at hd; exact hd
   unfold zfu at q;rw [hd',ht] at q;simp only [Bool.and_eq_true] at q;have:=q.1.2;simp at this
 . rw [Nat.zero_add] at q;exact hn (zen inv.closed (inv.closed m hm) q)
include s hl0 inv hi hn in
theorem zjH {b:Nat} (h1:(st i).2.next<=b) (h2:b<(st (i+1)).2.next):G b=Oe:=by
 cases h:G b with
 | none=>rfl
 | some l=>
  exfalso;rcases inv.dom b l h with q | ⟨m,hm,q1,q2⟩
  . have:=hl0 b l q;have:=s.mono (m:=0) (k:=i) J J;omega
  . have:=s.range_unique (inv.lt m hm) hi q1 q2 h1 h2;exact hn (this▸hm)
include s hl0 inv hi hn in
theorem znr {b:Nat} (h1:(st i).2.next<=b) (h2:b<(st (i+1)).2.next):∀ m,i<m->m<ops.size->S m->¬ Chg st m b:=by
 intro m h3 h4 hm hc;have hr:=zjH s hl0 inv hi hn h1 h2;have hle:=s.mono (m:=i+1) (k:=m) J J;have:=inv.junk m b hm J hr;rcases hc.2 with q | q
 . omega
 . exact q this
include s hl0 inv hi hn hp in
theorem zrF (hex:ex i=Od) {b:Nat} {l:Loc} (hb:G b=Ob l) (hlt:b<(st i).2.next) (hf:¬ Clear (ft i) b) :
 hcont st S ops.size b=(st i).2.get b/\∀ m,i<m->m<ops.size->S m->¬ Chg st m b:=by
 have later:∀ m,i<m->m<ops.size->S m->¬ Chg st m b:=by
  intro m h3 h4 hm hc;have hle:=s.mono (m:=i) (k:=m) J J;rcases hc.2 with q | q
  . omega
  . obtain ⟨e1,e2⟩:=s.chg h4 J q;rcases s.tr.apart i m (Nat.zero_le _) h3 (by simpa using h4) e1 hex with a | a
    . exact hf (zoA a e2)
    . exact hn (zen inv.closed (inv.closed m hm) a)
 refine ⟨?_,later⟩;rw [zlF (i:=i) ops.size J ?_,ziQ i hlt (λm hm=>s.mono1 J) ?_]
 . intro m hm hc;by_cases hbm:b<(st m).2.next
   . have hne:(st (m+1)).2.get b≠(st m).2.get b:=hc.2.resolve_left J;obtain ⟨e1,e2⟩:=s.chg J hbm hne;rcases s.tr.apart m i (Nat.zero_le _) hm (by simpa using hi) hex e1 with a | a
     . exact absurd (zqy a e2) hf
     . exact zen inv.closed hp a
   . rcases inv.dom b l hb with q | ⟨m',hm',q1,q2⟩
     . have:=hl0 b l q;have:=s.mono (m:=0) (k:=m) J J;omega
     . have:=s.range_unique (inv.lt m' hm') J q1 q2 (by omega:(st m).2.next<=b) hc.1;exact this▸hm'
 . intro m h1 h2 hm;by_cases e:m=i
   . exact absurd (e▸hm) hn
   . exact later m J h2 hm
end
def union (G' G:Emb):Emb:=λb=>if (G' b).isSome then G' b else G b
theorem zga {G' G:Emb} {b:Nat} {l:Loc} (h:G' b=Ob l):union G' G b=Ob l:=by
 unfold union; rw [h]; rfl
theorem zfB {G' G:Emb} {b:Nat} (h:G' b=Oe):union G' G b=G b:=by
 unfold union; rw [h]; rfl
section
variable {base:Nat} {G Gs G':Emb} {hS g g' h2:za} {w w':World}
theorem zuf (hr:H0 base G hS w) (hsub:Ext Gs G) (hg:∀ b l,Gs b=Ob l->g.get b=hS.get b) (ht:Trans Gs g w G' g' w') (hr':H0 base G' g' w')
    (hfr:∀ b,g.next<=b->b<g'.next->G b=Oe) (ha:∀ b l,G' b=Ob l->h2.get b=g'.get b) (hb:∀ b l,G b=Ob l->G' b=Oe->h2.get b=hS.get b) :
    Ext G (union G' G)/\Ext G' (union G' G)/\H0 base (union G' G) h2 w'/\Core G hS w (union G' G) h2 w':=by
  have dom':∀ b l,G' b=Ob l->Gs b=Ob l\/(g.next<=b/\b<g'.next):=ht.dom;have e1:Ext G (union G' G):=by
    intro b l h;cases h':G' b with
    | none=>rw [zfB h']; exact h
    | some l'=>
      rw [zga h'];rcases dom' b l' h' with q | ⟨q1,q2⟩
      · have:=hsub b l' q;rw [h] at this; cases this; rfl
      · rw [hfr b q1 q2] at h; cases h
  have e2:Ext G' (union G' G):=λb l h=>zga h;have ows:∀ b l,Gs b=Ob l->(Owns g b↔Owns hS b):=λb l h=>by unfold Owns; rw [hg b l h]
  have als:∀ b l,Gs b=Ob l->(Alive g b↔Alive hS b):=λb l h=>by unfold Alive; rw [hg b l h]
  have ow':∀ b l,G' b=Ob l->(Owns h2 b↔Owns g' b):=λb l h=>by unfold Owns; rw [ha b l h]
  have al':∀ b l,G' b=Ob l->(Alive h2 b↔Alive g' b):=λb l h=>by unfold Alive; rw [ha b l h]
  have owr:∀ b l,G b=Ob l->G' b=Oe->(Owns h2 b↔Owns hS b):=λb l h h'=>by unfold Owns; rw [hb b l h h']
  have alr:∀ b l,G b=Ob l->G' b=Oe->(Alive h2 b↔Alive hS b):=λb l h h'=>by unfold Alive; rw [hb b l h h']
  have cases':∀ b l,union G' G b=Ob l->G' b=Ob l\/(G' b=Oe/\G b=Ob l):=by
    intro b l h;cases h':G' b with
    | none=>rw [zfB h'] at h; exact .inr ⟨rfl,h⟩
    | some l'=>rw [zga h'] at h; exact .inl h
  have nos:∀ b,G' b=Oe->Gs b=Oe:=by
    intro b h;cases h':Gs b with
    | none=>rfl
    | some l=>rw [ht.ext b l h'] at h; cases h
  refine ⟨e1,e2,⟨?_, ?_, ?_, ?_⟩,⟨e1,ht.size, ?_, ?_,ht.os,ht.tape,ht.output, ?_⟩⟩
  · intro b l h;rcases cases' b l h with q | ⟨_,q⟩
    · exact hr'.clt b l q
    · exact Nat.lt_of_lt_of_le (hr.clt b l q) ht.size
  · intro b l h;rcases cases' b l h with q | ⟨q1,q⟩
    · rw [ha b l q];exact (hr'.blk b l q).mono e2 rfl
    · rw [hb b l q q1];by_cases al:Alive hS b
      · refine (hr.blk b l q).mono e1 (ht.frame l.c (hr.clt b l q) ?_);intro b1 l1 h1 ho1;refine hr.inj b1 b l1 l (hsub b1 l1 h1) q ?_ ((ows b1 l1 h1).1 ho1) al
        rintro rfl
        rw [nos b1 q1] at h1; cases h1
      · have hblk:=hr.blk b l q;unfold Alive at al;cases hx:hS.get b with
        | none=>rw [hx] at hblk; exact hblk.elim
        | some x=>
          rw [hx] at al;cases x with
          | dead=>trivial
          | arr _ _=>exact absurd trivial al
          | mp _=>exact absurd trivial al
          | loop _=>exact absurd trivial al
  · intro b b' l l' h h' hne ho hal;rcases cases' b l h with q | ⟨q1,q⟩<;>rcases cases' b' l' h' with p | ⟨p1,p⟩
    · exact hr'.inj b b' l l' q p hne ((ow' b l q).1 ho) ((al' b' l' p).1 hal)
    · have hog:=(ow' b l q).1 ho;have hah:=(alr b' l' p p1).1 hal;rcases ht.own b l q hog.alive with ⟨g1,g2,g3⟩ | g1 | ⟨b0,l0,g1,g2,g3⟩
      · exact hr.inj b b' l l' (hsub b l g1) p hne ((ows b l g1).1 (g3 hog)) hah
      · have:=hr.clt b' l' p; omega
      · have:=hr.inj b0 b' l0 l' (hsub b0 l0 g1) p (λe=>by rw [e,nos b' p1] at g1; cases g1) ((ows b0 l0 g1).1 g2) hah;omega
    · have hog:=(owr b l q q1).1 ho;have hah:=(al' b' l' p).1 hal;rcases ht.own b' l' p hah with ⟨g1,g2,g3⟩ | g1 | ⟨b0,l0,g1,g2,g3⟩
      · exact hr.inj b b' l l' q (hsub b' l' g1) hne hog ((als b' l' g1).1 g2)
      · have:=hr.clt b l q; omega
      · have:=hr.inj b0 b l0 l (hsub b0 l0 g1) q (λe=>by rw [e,nos b q1] at g1; cases g1) ((ows b0 l0 g1).1 g2) hog.alive;omega
    · exact hr.inj b b' l l' q p hne ((owr b l q q1).1 ho) ((alr b' l' p p1).1 hal)
  · exact Nat.le_trans hr.base ht.size
  · intro k hk hb';exact ht.frame k hk (λb l h1 h2=>hb' b l (hsub b l h1) ((ows b l h1).1 h2))
  · intro b l h hal;rcases cases' b l h with q | ⟨q1,q⟩
    · rcases ht.own b l q ((al' b l q).1 hal) with ⟨g1,g2,g3⟩ | g1 | ⟨b0,l0,g1,g2,g3⟩
      · exact .inl ⟨hsub b l g1,(als b l g1).1 g2,λz=>(ows b l g1).1 (g3 ((ow' b l q).1 z))⟩
      · exact .inr (.inl g1)
      · exact .inr (.inr ⟨b0,l0,hsub b0 l0 g1,(ows b0 l0 g1).1 g2,g3⟩)
    · exact .inl ⟨q,(alr b l q q1).1 hal,λz=>(owr b l q q1).1 z⟩
  · intro b l L h hL;cases hs:Gs b with
    | some l2=>
      have hL':g.get b=Ob (.loop L):=by rw [hg b l2 hs]; exact hL
      obtain ⟨L',g1,g2⟩:=ht.loops b l2 L hs hL';exact ⟨L',by rw [ha b l2 (ht.ext b l2 hs)]; exact g1,g2⟩
    | none=>
      have hnone:G' b=Oe:=by
        cases h':G' b with
        | none=>rfl
        | some l'=>
          rcases dom' b l' h' with q | ⟨q1,q2⟩
          · rw [hs] at q; cases q
          · rw [hfr b q1 q2] at h; cases h
      exact ⟨L,by rw [hb b l h hnone]; exact hL,.refl L⟩
end
end Go.Ai
namespace Go.Ai
open Classical
def opF (f:Nat->zd):Operand->zd
 | .tmp t=>f t
 | x=>zi.op .leaf x
theorem zza (fr:zi) (x:Operand):fr.op x=opF fr.ev x:=by cases x<;>rfl
theorem zoB {G:Emb} {f:Nat->zd} {tmps:Array Value} (h:∀ t,zal G (f t) (tmps.getD t undef)) (x:Operand):zal G (opF f x) (evT tmps x):=by
 cases x with
 | tmp t=>exact h t
 | const v=>
  show zal G ((zhM v).getD .undef) v;cases h:zhM v with
  | none=>exact .undef v
  | some y=>exact zeU G v y h
 | global g=>exact .undef _
 | func f=>exact .func _ _ [] [] #[] #[] (.inr ⟨f,rfl,rfl⟩) rfl rfl Ol Ol
theorem zmm {ops:List Oper} {o:Oper} {t:Nat} (h:Operand.tmp t∈o.op.operands.toList):t∈looks ops o:=by
 unfold looks;exact List.mem_append.2 (.inl (List.mem_flatMap.2 ⟨_,h,by simp [zrp]⟩))
section
variable {T:Tab} {P:Program} {base:Nat} {call:Caller} {ops:Array Oper} {n:Nat} {st:Nat->zi×za} {vl:Nat->zd} {ft:Nat->Foot} {ex:Nat->Bool}
variable {G0:Emb} {w0:World} {S:Nat->Prop} {G:Emb} {tmps:Array Value} {w:World} {hS:za}
variable (s:Setup T P base call ops n st vl ft ex) (hl0:∀ b l,G0 b=Ob l->b<(st 0).2.next) (inv:Inv base ops n st vl G0 w0 S G tmps w hS)
variable {i:Nat} (hi:i<ops.size) (hn:¬ S i) (hp:preds ops S i)
include s inv hi hn hp in
theorem ziR {o:Oper} (ho:ops.toList[i]?=Ob o) {x:Operand} (hx:x∈o.op.operands.toList):(st i).1.op x=opF (fcont ops.toList st vl S ops.size) x:=by
 rw [zza];cases x with
 | tmp t=>exact (zrE s inv hi hn hp ho (zmm hx)).symm
 | const v=>rfl
 | global g=>rfl
 | func f=>rfl
include inv hi hp in
theorem zyR:Closed ops (λx=>S x\/x=i):=by
 intro j hj o ho e he hb;rcases hj with hj | hj
 . exact .inl (inv.closed j hj o ho e he hb)
 . subst hj; exact .inl (hp o ho e he hb)
include s inv hi hn in
theorem zns {o:Oper} (ho:ops.toList[i]?=Ob o) {G2:Emb} {v':Value} (he:Ext G G2) (hv:zal G2 (vl i) v') (hd:∀ d,o.dst=Ob d->d<tmps.size) (t:Nat) :
    zal G2 (fcont ops.toList st vl (λx=>S x\/x=i) ops.size t) ((zlx tmps o.dst v').getD t undef):=by
  have hdo:zgy ops.toList i=o.dst:=by unfold zgy; rw [ho]; rfl
  by_cases e:o.dst=Ob t
  · rw [(zkh hn ops.size).2 (hdo.trans e) hi (zue s inv hn ho e)];rw [e];have hlt:=hd t e;simp [zlx,Array.getD,hlt];exact hv
  · rw [(zkh hn ops.size).1 (by rw [hdo]; exact e)];have:=(inv.frame t).mono he;cases hdst:o.dst with
    | none=>exact this
    | some d=>
      have hne:d≠t:=λq=>e (by rw [hdst,q]);simp only [zlx];rw [show (tmps.setIfInBounds d v').getD t undef=tmps.getD t undef from by
        simp [Array.getD_eq_getD_getElem?,Array.getElem?_setIfInBounds,hne]]
      exact this
variable (fn:FuncId) (kind:CallKind) (rnd:Option Nat) (ds:List Deferred) (is:List Nat) (k:List Item) (cs:List Frame)
def Goes (P:Program) (base:Nat) (ops:Array Oper) (n:Nat) (st:Nat->zi×za) (vl:Nat->zd) (G0:Emb) (w0:World) (S:Nat->Prop) (i:Nat) (tmps:Array Value) (w:World)
 (fn:FuncId) (kind:CallKind) (rnd:Option Nat) (ds:List Deferred) (is:List Nat) (k:List Item) (cs:List Frame):Prop:=
 ∃ G2 tmps2 w2 h2,Inv base ops n st vl G0 w0 (λx=>S x\/x=i) G2 tmps2 w2 h2 /\
  Steps P (lone (fat fn kind rnd tmps ds (.inRegion ops (i::is)::k)) cs w) (lone (fat fn kind rnd tmps2 ds (.inRegion ops is::k)) cs w2)
include s inv hi hn hp in
theorem zrG {o:Oper} (ho:ops.toList[i]?=Ob o) (hd:∀ d,o.dst=Ob d->d<tmps.size) (hw:Region.wanted o (yielded ops tmps)=Oc) (hv:vl i=unit) (e:(st (i+1)).2=(st i).2) :
 Goes P base ops n st vl G0 w0 S i tmps w fn kind rnd ds is k cs:=by
 have hoi:ops[i]?=Ob o:=by simpa using ho
 have hnc:∀ b,G b≠Oe->¬ Chg st i b:=by
  intro b _ hc;unfold Chg at hc;rw [e] at hc;rcases hc.2 with q | q
  . have:=hc.1; omega
  . exact q rfl
 refine ⟨G,zlx tmps o.dst undef,w,hS,⟨zyR inv hi hp, ?_,by rw [zf9]; exact inv.size, ?_, ?_,inv.heap,inv.core, ?_, ?_⟩, ?_⟩
 . rintro j (hj | rfl)
   . exact inv.lt j hj
   . exact hi
 . exact zns s inv hi hn ho (.refl _) (by rw [hv]; exact .tuple' (.nil _)) hd
 . intro b l hb;rw [(zeo hn ops.size).1 (hnc b (by rw [hb]; simp))];exact inv.cont b l hb
 . intro b l hb;rcases inv.dom b l hb with q | ⟨m,hm,q⟩
   . exact .inl q
   . exact .inr ⟨m,.inl hm,q⟩
 . intro m b hm hb hr;rcases hm with hm | rfl
   . exact inv.junk m b hm hb hr
   . rw [e]
 . have hst:=zly (P:=P) (fn:=fn) (kind:=kind) (rnd:=rnd) (tmps:=tmps) (ds:=ds) (k:=k) (cs:=cs) (w:=w) (ops:=ops) (i:=i) (is:=is) (by simp [hoi,hw]);rw [hoi] at hst;simp only [Zs] at hst;exact .one hst
include s hl0 inv hi hn hp in
theorem zrH {o:Oper} (ho:ops.toList[i]?=Ob o) (hd:∀ d,o.dst=Ob d->d<tmps.size) {Gs G':Emb} {g g':za} {w':World} {v':Value}
    (hsub:Ext Gs G) (hg:∀ b l,Gs b=Ob l->g.get b=hS.get b) (ht:Trans Gs g w G' g' w') (hr':H0 base G' g' w') (hv:zal G' (vl i) v')
    (gn:g.next=(st i).2.next) (gn':g'.next=(st (i+1)).2.next)
    (ha:∀ b l,G' b=Ob l->g'.get b=hcont st (λx=>S x\/x=i) ops.size b)
    (hb:∀ b l,G b=Ob l->G' b=Oe->¬ Chg st i b)
    (hj:∀ b,b<(st i).2.next->G b=Oe->(st (i+1)).2.get b=(st i).2.get b)
    (hst:Steps P (lone (fat fn kind rnd tmps ds (.inRegion ops (i::is)::k)) cs w) (lone (fat fn kind rnd (zlx tmps o.dst v') ds (.inRegion ops is::k)) cs w')) :
    Goes P base ops n st vl G0 w0 S i tmps w fn kind rnd ds is k cs:=by
  have hbound:∀ b l,union G' G b=Ob l->b<(st ops.size).2.next:=by
    intro b l h;have old:∀ l,G b=Ob l->b<(st ops.size).2.next:=by
      intro l h;rcases inv.dom b l h with q | ⟨m,hm,q1,q2⟩
      · have:=hl0 b l q;have:=s.mono (m:=0) (k:=ops.size) J J;omega
      · have:=inv.lt m hm;have:=s.mono (m:=m+1) (k:=ops.size) J J;omega
    cases h':G' b with
    | none=>rw [zfB h'] at h; exact old l h
    | some l'=>
      rcases ht.dom b l' h' with q | ⟨q1,q2⟩
      · exact old l' (hsub b l' q)
      · have:=s.mono (m:=i+1) (k:=ops.size) J J;omega
  obtain ⟨h2,hn2,hget⟩:=zvX (hcont st (λx=>S x\/x=i) ops.size) 0 (st ops.size).2.next;have hcont2:∀ b l,union G' G b=Ob l->h2.get b=hcont st (λx=>S x\/x=i) ops.size b:=λb l h=>by
    rw [hget,if_pos (hbound b l h)]
  have ha2:∀ b l,G' b=Ob l->h2.get b=g'.get b:=λb l h=>by rw [hcont2 b l (zga h),ha b l h]
  have hb2:∀ b l,G b=Ob l->G' b=Oe->h2.get b=hS.get b:=λb l h h'=>by
    rw [hcont2 b l (by rw [zfB h']; exact h),(zeo hn ops.size).1 (hb b l h h'),inv.cont b l h]
  obtain ⟨e1,e2,m1,m2⟩:=zuf inv.heap hsub hg ht hr' (λb h1 h2=>zjH s hl0 inv hi hn J J) ha2 hb2;refine ⟨union G' G,zlx tmps o.dst v',w',h2,⟨zyR inv hi hp, ?_,by rw [zf9]; exact inv.size, ?_,hcont2,m1,inv.core.trans m2, ?_, ?_⟩,hst⟩
  · rintro j (hj | rfl)
    · exact inv.lt j hj
    · exact hi
  · exact zns s inv hi hn ho e1 (hv.mono e2) hd
  · intro b l h;have old:G b=Ob l->G0 b=Ob l\/∃ m,(S m\/m=i)/\(st m).2.next<=b/\b<(st (m+1)).2.next:=by
      intro h;rcases inv.dom b l h with q | ⟨m,hm,q⟩
      · exact .inl q
      · exact .inr ⟨m,.inl hm,q⟩
    cases h':G' b with
    | none=>rw [zfB h'] at h; exact old h
    | some l'=>
      have hl:l'=l:=by rw [zga h'] at h; cases h; rfl
      subst hl;rcases ht.dom b l' h' with q | ⟨q1,q2⟩
      · exact old (hsub b l' q)
      · exact .inr ⟨i,.inr rfl,by omega,by omega⟩
  · intro m b hm hlt hr;have hr1:G b=Oe:=by
      cases h:G b with
      | none=>rfl
      | some l=>rw [e1 b l h] at hr; cases hr
    rcases hm with hm | rfl
    · exact inv.junk m b hm hlt hr1
    · exact hj b hlt hr1
include s inv hi hn hp in
theorem zug {o:Oper} (ho:ops.toList[i]?=Ob o) {b:Nat} (hb:b∈(foot (st i).1.op o).rd\/b∈(foot (st i).1.op o).wr):(∃ l,G b=Ob l)/\b<(st i).2.next:=by
 obtain ⟨a,ha,hb⟩:=znp hb;constructor
 . rw [ziR s inv hi hn hp ho ha] at hb;exact znq (zoB inv.frame a) hb
 . obtain ⟨Gi,ti,wi,h1,h2,h3⟩:=s.run i J;obtain ⟨l,hl⟩:=znq (zkc h2 a) hb;exact h3.lt b l hl
include hi hn in
theorem zpo {b:Nat} (hc:(st (i+1)).2.get b≠(st i).2.get b\/(st i).2.next<=b) (hlt:b<(st (i+1)).2.next) (hl:∀ m,i<m->m<ops.size->S m->¬ Chg st m b) :
 hcont st (λx=>S x\/x=i) ops.size b=(st (i+1)).2.get b:=
 (zeo hn ops.size).2 ⟨hlt,hc.symm⟩ hi hl
include s hl0 inv hi hn hp in
theorem zqz {o:Oper} (ho:ops.toList[i]?=Ob o) (hd:∀ d,o.dst=Ob d->d<tmps.size) (hw:Region.wanted o (yielded ops tmps)=Od) (hs:zeO o.op=Od)
 (hex:ex i=Od) {h':za} (ha:aop T (st i).1.op { (st i).2 with wm:=(st i).2.next } o.op=Ob (.val (vl i) h'))
 (hft:ft i=foot (st i).1.op o) (e:(st (i+1)).2={ h' with wm:=min (st i).2.wm h'.wm }) :
 Goes P base ops n st vl G0 w0 S i tmps w fn kind rnd ds is k cs:=by
 have hoi:ops[i]?=Ob o:=by simpa using ho
 have egt:∀ b,(st (i+1)).2.get b=h'.get b:=λb=>by rw [e]; rfl
 have enx:(st (i+1)).2.next=h'.next:=by rw [e]
 have hat:∀ b,b∈(foot (st i).1.op o).rd\/b∈(foot (st i).1.op o).wr->(∃ l,G b=Ob l)/\b<(st i).2.next/\hcont st S ops.size b=(st i).2.get b/\∀ m,i<m->m<ops.size->S m->¬ Chg st m b:=by
  intro b hb;obtain ⟨⟨l,hl⟩,hlt⟩:=zug s inv hi hn hp ho hb;refine ⟨⟨l,hl⟩,hlt,zrF s hl0 inv hi hn hp hex hl hlt (λc=>?_)⟩;rw [hft] at c;rcases hb with hb | hb
  . exact c.rd hb
  . exact c.wr hb
 obtain ⟨h2',g1,g2⟩:=znn (h2:={ hS with next:=(st i).2.next,wm:=(st i).2.next }) ha rfl (λb hb=>by
  obtain ⟨⟨l,hl⟩,hlt,hc,_⟩:=hat b hb;show hS.get b=(st i).2.get b;rw [inv.cont b l hl,hc])
 rw [zrD (ev':=opF (fcont ops.toList st vl S ops.size)) (λx hx=>ziR s inv hi hn hp ho hx)] at g1;have hH:H0 base G { hS with next:=(st i).2.next,wm:=(st i).2.next } w:=inv.heap.congr (λ_ _ _=>rfl);obtain ⟨nx,v',w',G',q1,q2,q3,q4,q5⟩:=zvT s.ok (o:=o) hH (λhne=>by
  have hne:h2'.next≠(st i).2.next:=hne;refine zjH s hl0 inv hi hn (b:=(st i).2.next) (Nat.le_refl _) ?_;have a1:h2'.next=h'.next:=g2.1;have a2:h'.next=(st i).2.next\/h'.next=(st i).2.next+1:=g2.2.1;omega) (λx=>zoB inv.frame x) g1
 have hnx:h2'.next=(st (i+1)).2.next:=by rw [enx]; exact g2.1
 refine zrH s hl0 inv hi hn hp fn kind rnd ds is k cs ho hd (Gs:=G) (G':=G') (g:={ hS with next:=(st i).2.next,wm:=(st i).2.next }) (g':=h2') (.refl _) (λ_ _ _=>rfl) q5 q4 q3 rfl hnx ?_ ?_ ?_ ?_
 . intro b l hb;have hbd:(∃ l,G b=Ob l)\/((st i).2.next<=b/\b<(st (i+1)).2.next):=by
    rcases q5.dom b l hb with z | ⟨z1,z2⟩
    . exact .inl ⟨l,z⟩
    . exact .inr ⟨z1,by rw [← hnx]; exact z2⟩
   rcases g2.2.2 b with ⟨z1,z2,z3⟩ | ⟨z1,z2⟩
   . have hnr:¬ ((st i).2.next<=b/\b<(st (i+1)).2.next):=by
      rintro ⟨y1,y2⟩
      rw [enx] at y2;have:=g2.2.1;simp only at z3 this;omega
     have hnc:¬ Chg st i b:=by
      rintro ⟨c1,c2⟩
      rcases c2 with c2 | c2
      . exact hnr ⟨c2,c1⟩
      . exact c2 ((egt b).trans z1)
     obtain ⟨l1,hl1⟩:=hbd.resolve_right hnr;rw [z2,(zeo hn ops.size).1 hnc];exact inv.cont b l1 hl1
   . rw [z1,← egt b];rcases z2 with z2 | ⟨z2,z3⟩
     . obtain ⟨⟨l1,hl1⟩,hlt,hc,hlat⟩:=hat b (.inr z2);by_cases hch:Chg st i b
       . exact ((zeo hn ops.size).2 hch hi hlat).symm
       . rw [(zeo hn ops.size).1 hch,hc];have hlt2:b<(st (i+1)).2.next:=Nat.lt_of_lt_of_le hlt (s.mono1 hi);by_cases q:(st (i+1)).2.get b=(st i).2.get b
         . exact q
         . exact absurd ⟨hlt2,.inr q⟩ hch
     . simp only at z2 z3;have h1:(st i).2.next<=b:=J
       have h2:b<(st (i+1)).2.next:=J
       exact (zpo hi hn (.inr h1) h2 (znr s hl0 inv hi hn h1 h2)).symm
 . intro b l hb hb';rw [q5.ext b l hb] at hb'; cases hb'
 . intro b hlt hr;rw [egt];rcases g2.2.2 b with ⟨z1,z2,z3⟩ | ⟨z1,z2⟩
   . exact z1
   . rcases z2 with z2 | ⟨z2,z3⟩
     . obtain ⟨⟨l1,hl1⟩,_⟩:=hat b (.inr z2);rw [hr] at hl1; cases hl1
     . simp only at z2; omega
 . exact .one (zkb hoi hw hs q1 q2)
include s hl0 inv hi hn hp in
theorem zrI {o:Oper} (ho:ops.toList[i]?=Ob o) (hd:∀ d,o.dst=Ob d->d<tmps.size) (hw:Region.wanted o (yielded ops tmps)=Od) (hs:zeO o.op=Od)
    (hex:ex i=Od) {f:zd} {as:List zd} {h':za} (ha:aop T (st i).1.op { (st i).2 with wm:=(st i).2.next } o.op=Ob (.call f as)) (hcl:call f as { (st i).2 with wm:=(st i).2.next }=Ob (.ret (vl i),h'))
    (hft:(ft i).rall=Od) (e:(st (i+1)).2={ h' with wm:=min (st i).2.wm h'.wm }) :
    Goes P base ops n st vl G0 w0 S i tmps w fn kind rnd ds is k cs:=by
  have hoi:ops[i]?=Ob o:=by simpa using ho
  have egt:∀ b,(st (i+1)).2.get b=h'.get b:=λb=>by rw [e]; rfl
  have enx:(st (i+1)).2.next=h'.next:=by rw [e]
  obtain ⟨Gi,ti,wi,r1,r2,r3⟩:=s.run i J;have hat:∀ b l,inter G Gi b=Ob l->hcont st S ops.size b=(st i).2.get b/\∀ m,i<m->m<ops.size->S m->¬ Chg st m b:=by
    intro b l hb;obtain ⟨h1,li,h2⟩:=zep hb;refine zrF s hl0 inv hi hn hp hex h1 (r3.lt b li h2) (λc=>?_);have:=c.rall;rw [hft] at this; cases this
  have hget:∀ b l,inter G Gi b=Ob l->(st i).2.get b=hS.get b:=λb l hb=>by
    rw [inv.cont b l (zep hb).1,(hat b l hb).1]
  have hH:zeV base (inter G Gi) { (st i).2 with wm:=(st i).2.next } w:=by
    refine ⟨⟨?_, ?_, ?_,inv.heap.base⟩, ?_⟩
    · intro b l hb; exact inv.heap.clt b l (zep hb).1
    · intro b l hb;obtain ⟨h1,li,h2⟩:=zep hb;have g1:=inv.heap.blk b l h1;rw [← hget b l hb] at g1;exact g1.inter (r3.blk b li h2)
    · intro b b' l l' hb hb' hne ho ha;refine inv.heap.inj b b' l l' (zep hb).1 (zep hb').1 hne ?_ ?_
      · unfold Owns at ho ⊢; rw [← hget b l hb]; exact ho
      · unfold Alive at ha ⊢; rw [← hget b' l' hb']; exact ha
    · intro b l hb;obtain ⟨h1,li,h2⟩:=zep hb;exact r3.lt b li h2
  have hop:∀ x∈o.op.operands.toList,zal (inter G Gi) ((st i).1.op x) (evT tmps x):=by
    intro x hx;have h1:=zoB inv.frame x;rw [← ziR s inv hi hn hp ho hx] at h1;exact h1.inter (zkc r2 x)
  obtain ⟨c,fo,hopc,hcal,rfl,rfl⟩:=zc2 ha;have hfo:fo∈o.op.operands.toList:=by rw [hopc]; simp [Op.operands,Call.operands,hcal]
  have hargs:zcL (inter G Gi) (c.args.toList.map (st i).1.op) (c.args.map (evT tmps)).toList:=by
    refine ⟨by simp,λj v v' hv hv'=>?_⟩;rw [Array.toList_map] at hv';rw [List.getElem?_map] at hv hv';cases hx:c.args.toList[j]? with
    | none=>rw [hx] at hv; cases hv
    | some x=>
      rw [hx] at hv hv';cases hv; cases hv';refine hop x ?_;rw [hopc];simp only [Op.operands,Call.operands,Array.toList_append,List.mem_append];exact .inr (List.mem_of_getElem? hx)
  obtain ⟨nx,fs,h1,h2,h3⟩:=s.hc _ _ _ _ _ hcl (inter G Gi) w (evT tmps fo) (c.args.map (evT tmps)) (hop fo hfo) hargs hH;have hrun:(execOp (evT tmps) o).run P w=.ok nx w:=by
    unfold execOp;rw [hopc];simp only [resolve,hcal];exact h1
  have hst:=zlz (fn:=fn) (kind:=kind) (rnd:=rnd) (ds:=ds) (k:=k) (cs:=cs) (is:=is) hoi hw hs hrun h2;obtain ⟨r',w',G',q1,q2,q3,q4⟩:=h3 (fat fn kind rnd tmps ds (.inRegion ops (i::is)::k)) cs;cases r' with
  | pan _=>exact q1.elim
  | ret v'=>
    have hfin:(ztN.ret v').frame (fat fn kind rnd tmps ds (.inRegion ops (i::is)::k))=fat fn kind rnd (zlx tmps o.dst v') ds (.inRegion ops is::k):=by
      simp only [ztN.frame];rw [zhk,hoi]; rfl
    have hsteps:=Steps.head hst q4;rw [hfin] at hsteps;have nr:∀ b,G' b=Oe->inter G Gi b=Oe:=by
      intro b hb;cases z:inter G Gi b with
      | none=>rfl
      | some l=>rw [q3.ext b l z] at hb; cases hb
    have hj:∀ b,b<(st i).2.next->inter G Gi b=Oe->(st (i+1)).2.get b=(st i).2.get b:=λb hlt hr=>by
      rw [egt]; exact q3.junk b hlt hr
    refine zrH s hl0 inv hi hn hp fn kind rnd ds is k cs ho hd (Gs:=inter G Gi) (G':=G') (g:={ (st i).2 with wm:=(st i).2.next }) (g':=h') (λb l hb=>(zep hb).1) hget q3 q2.toH0 q1 rfl enx.symm ?_ ?_ ?_ hsteps
    · intro b l hb;rw [← egt];rcases q3.dom b l hb with z | ⟨z1,z2⟩
      · obtain ⟨hc,hlat⟩:=hat b l z;have hlt:=hH.lt b l z;have hlt:b<(st i).2.next:=hlt;by_cases hch:Chg st i b
        · exact ((zeo hn ops.size).2 hch hi hlat).symm
        · rw [(zeo hn ops.size).1 hch,hc];have hlt2:b<(st (i+1)).2.next:=Nat.lt_of_lt_of_le hlt (s.mono1 hi);by_cases q:(st (i+1)).2.get b=(st i).2.get b
          · exact q
          · exact absurd ⟨hlt2,.inr q⟩ hch
      · have h1:(st i).2.next<=b:=z1;have h2:b<(st (i+1)).2.next:=by rw [enx]; exact z2
        exact (zpo hi hn (.inr h1) h2 (znr s hl0 inv hi hn h1 h2)).symm
    · rintro b l hb hb' ⟨c1,c2⟩
      by_cases hlt:b<(st i).2.next
      · exact (c2.resolve_left J) (hj b hlt (nr b hb'))
      · rw [zjH s hl0 inv hi hn J c1] at hb; cases hb
    · intro b hlt hr;refine hj b hlt ?_;cases z:inter G Gi b with
      | none=>rfl
      | some l=>rw [(zep z).1] at hr; cases hr
include s hl0 inv hi hn hp in
theorem goes:Goes P base ops n st vl G0 w0 S i tmps w fn kind rnd ds is k cs:=by
 have hol:ops.toList[i]?=Ob ops[i]:=by simp [hi]
 have hmem:ops[i]∈ops.toList:=List.mem_of_getElem? hol;obtain ⟨hdst,hsv⟩:=s.hops _ hmem;have hall:∀ o∈ops.toList,∀ d,o.dst=Ob d->d<tmps.size:=λo' ho' d hd'=>by rw [inv.size]; exact (s.hops o' ho').1 d hd'
 have hlk:∀ d∈looks ops.toList ops[i],zal G ((st i).1.ev d) (tmps.getD d undef):=λd hd=>by
  rw [← zrE s inv hi hn hp hol hd]; exact inv.frame d
 rcases s.tr.step i _ (Nat.zero_le _) hol with ⟨_,hw,hv,e⟩ | ⟨hex,hw,h',hst,hft,e⟩
 . exact zrG s inv hi hn hp fn kind rnd ds is k cs hol (hall _ hmem) (zlG hlk hall hw) hv (by rw [e])
 . have hwt:=zlG hlk hall hw;unfold astep at hst;split at hst
   . rename_i v h2 ha;cases hst;obtain ⟨f1,f2⟩:=zml ha;exact zqz s hl0 inv hi hn hp fn kind rnd ds is k cs hol (hall _ hmem) hwt hsv hex ha (by rw [hft]; unfold zfT; rw [f1]; rfl) (by rw [e])
   . rename_i f as ha;exact zrI s hl0 inv hi hn hp fn kind rnd ds is k cs hol (hall _ hmem) hwt hsv hex ha hst (by rw [hft,zig ha]; rfl) (by rw [e])
   . cases hst
include s hl0 in
theorem zuh {l:List Nat} (hs:Sched ops S l):∀ {G:Emb} {tmps:Array Value} {w:World} {hS:za},Inv base ops n st vl G0 w0 S G tmps w hS ->
    ∃ G2 tmps2 w2 h2,Inv base ops n st vl G0 w0 (λi=>i<ops.size) G2 tmps2 w2 h2 /\
      Steps P (lone (fat fn kind rnd tmps ds (.inRegion ops l::k)) cs w) (lone (fat fn kind rnd tmps2 ds (.inRegion ops []::k)) cs w2):=by
  induction hs with
  | nil S h=>
    intro G tmps w hS inv;have:S=(λi=>i<ops.size):=funext λx=>propext ⟨inv.lt x,h x⟩;subst this;exact ⟨G,tmps,w,hS,inv,.refl _ _⟩
  | cons S i l hi hn hp _ ih=>
    intro G tmps w hS inv;obtain ⟨G1,t1,w1,h1,i1,s1⟩:=goes s hl0 inv hi hn hp fn kind rnd ds l k cs;obtain ⟨G2,t2,w2,h2,i2,s2⟩:=ih i1;exact ⟨G2,t2,w2,h2,i2,s1.trans s2⟩
end
theorem zwI {T:Tab} {P:Program} {base:Nat} (ok:T.Ok P):zvW T P base:=by
 intro call hc hk ops n hops hedge hslots fr h fr' h' hl G w ds rnd tmps t pre fn kind k cs;obtain ⟨st,vl,ft,ex,s0,tr,sN⟩:=zhQ ops.toList 0 [] fr h fr' h' Ol hl;simp only [Nat.zero_add,Array.length_toList] at sN;have e1:(st 0).1=fr:=by rw [s0]
 have e2:(st 0).2=h:=by rw [s0]
 have s:Setup T P base call ops n st vl ft ex:=⟨ok,hc,hk,hops,hslots,tr,zpn ok hc hops tr pre.size (by rw [e1]; exact pre.frame) (by rw [e2]; exact pre.heap)⟩;have hf0:∀ N t,fcont ops.toList st vl (λ_=>False) N t=fr.ev t:=by
  intro N t;induction N with
  | zero=>simp only [fcont]; rw [e1]
  | succ N ih=>simp only [fcont]; rw [if_neg (λq=>q.1)]; exact ih
 have hh0:∀ N b,hcont st (λ_=>False) N b=h.get b:=by
  intro N b;induction N with
  | zero=>simp only [hcont]; rw [e2]
  | succ N ih=>simp only [hcont]; rw [if_neg (λq=>q.1)]; exact ih
 have hl0:∀ b l,G b=Ob l->b<(st 0).2.next:=by rw [e2]; exact pre.heap.lt
 have inv0:Inv base ops n st vl G w (λ_=>False) G tmps w h:=by
  refine ⟨λi hi=>hi.elim,λi hi=>hi.elim,pre.size,λt=>?_,λb l _=>?_,pre.heap.toH0, ?_,λb l hb=>.inl hb,λm b hm=>hm.elim⟩
  . rw [hf0]; exact pre.frame t
  . rw [hh0]
  . rw [e2]; exact .refl _ _ _
 obtain ⟨G2,t2,w2,h2,inv,hsteps⟩:=zuh s hl0 fn kind rnd ds k cs (zlb hedge t) inv0;have ehc:∀ b l,G2 b=Ob l->h2.get b=(st ops.size).2.get b:=by
  intro b l hb;rw [inv.cont b l hb];refine ziQ ops.size ?_ (λm hm=>s.mono1 hm) (λm hm _=>hm);rcases inv.dom b l hb with q | ⟨m,hm,q1,q2⟩
  . exact Nat.lt_of_lt_of_le (hl0 b l q) (s.mono (Nat.zero_le _) (Nat.le_refl _))
  . exact Nat.lt_of_lt_of_le q2 (s.mono J (Nat.le_refl _))
 have efr:∀ t,fcont ops.toList st vl (λi=>i<ops.size) ops.size t=(st ops.size).1.ev t:=λt=>ziP ops.size (λm hm=>s.ev hm) (λm hm _=>hm);have eN1:(st ops.size).1=fr':=by rw [sN]
 have eN2:(st ops.size).2=h':=by rw [sN]
 have hH:H0 base G2 h' w2:=by rw [← eN2]; exact inv.heap.congr (λb l hb=>(ehc b l hb).symm)
 have hC:Core G h w G2 h' w2:=by
  have:=inv.core.congr (g:=h) (g':=h') (λb l _=>by rw [e2]) (λb l hb=>by rw [← eN2]; exact (ehc b l hb).symm);exact this
 have hT:Trans G h w G2 h' w2:=by
  refine ⟨hC.ext,hC.size,hC.frame,hC.own,hC.os,hC.tape,hC.output,hC.loops, ?_, ?_, ?_⟩
  . rw [← e2,← eN2]; exact s.mono (Nat.zero_le _) (Nat.le_refl _)
  . intro b l hb;rcases inv.dom b l hb with q | ⟨m,hm,q1,q2⟩
    . exact .inl q
    . right;rw [← e2,← eN2];have:=s.mono (m:=0) (k:=m) (Nat.zero_le _) J;have:=s.mono (m:=m+1) (k:=ops.size) J (Nat.le_refl _);omega
  . intro b hb hr;have hnone:G2 b=Oe:=by
     cases z:G2 b with
     | none=>rfl
     | some l=>
      rcases inv.dom b l z with q | ⟨m,hm,q1,q2⟩
      . rw [hr] at q; cases q
      . have:=s.mono (m:=0) (k:=m) (Nat.zero_le _) J;rw [e2] at this;omega
    have all:∀ m,m<=ops.size->(st m).2.get b=h.get b:=by
     intro m;induction m with
     | zero=>intro _; rw [e2]
     | succ m ih=>
      intro hm;have hle:=s.mono (m:=0) (k:=m) (Nat.zero_le _) J;rw [e2] at hle;rw [inv.junk m b J J hnone];exact ih J
    rw [← eN2];exact all ops.size (Nat.le_refl _)
 refine ⟨t2,w2,G2,inv.size,λt=>?_,hH.toH hT pre.heap,hT,hsteps.trans (.one zib)⟩;rw [← eN1,← efr];exact inv.frame t
end Go.Ai
namespace Go.Ai
theorem zoC {T:Tab} {P:Program} {base:Nat} (ok:T.Ok P) (n:Nat):RunOk P base (aexec T n):=
 zpm ok (zwI ok) zkg zkf n
theorem zmn {T:Tab} {P:Program} {base:Nat} (ok:T.Ok P) {n:Nat} {f:FuncId} {args:List zd} {h:za} {r:zj2} {h':za} (hl:zeE T (aexec T n) f args h=Ob (r,h')) {G:Emb} {w:World} {args':Array Value}
 (ha:zcL G args args'.toList) (hr:zeV base G h w):Calls P f args' w (zwG base G h w r h'):=
 (zwH ok (zoC ok n) hl ha hr).2
theorem Tab.Ok.prim {T : Tab} {P : Program} (ok : T.Ok P) {g : FuncId} {p : List zd → Option zd} (h1 : ∃ F, P.funcs[g]? = some F ∧ (F.name == "runtime.NumGoroutine") = false ∧ F.body.isSome = true)
    (h2:∀ xs v,p xs=Ob v->∀ G (xs':Array Value) w,zcL G xs xs'.toList->Calls P g xs' w fun e w'=>∃ v',e=.returned v'∧zal G v v'∧w'=w) :
    Tab.Ok { T with consts:=T.consts.set g p } P:=by
  refine ⟨ok.types,ok.funcs,ok.mixed,fun f q hq=>?_⟩;have hq:(T.consts.set g p).get f=Ob q:=hq;rw [Tr.get_set] at hq;by_cases e:f=g
  · rw [if_pos e] at hq;cases hq;subst e;refine ⟨h1,fun xs v hv G xs' w hx=>(h2 xs v hv G xs' w hx).mono fun e w' he=>?_⟩;obtain ⟨v',a1,a2,rfl⟩:=he;exact ⟨v',a1,a2,Nat.le_refl _,fun _ _=>rfl,rfl,rfl,rfl⟩
  · rw [if_neg e] at hq;exact ok.consts f q hq
def Runner.Le (a b:Runner):Prop:=∀ c fr h r,a c fr h=Ob r->b c fr h=Ob r
def Caller.Le (a b:Caller):Prop:=∀ f as h r,a f as h=Ob r->b f as h=Ob r
section
variable {T:Tab}
theorem zmo {a b:Caller} (h:Caller.Le a b) {ev:Operand->zd} {o:Op} {hp:za} {r:zj2×za} (hl:astep T a ev o hp=Ob r):astep T b ev o hp=Ob r:=by
 unfold astep at hl ⊢;split at hl
 . rename_i e; exact hl
 . rename_i e; exact h _ _ _ _ hl
 . cases hl
theorem zmp {a b:Caller} (h:Caller.Le a b) {ops:List Oper}:∀ (rest:List Oper) (fr:zi) (hp:za) (r:zaQ×zi×za),aops T a ops rest fr hp=Ob r->aops T b ops rest fr hp=Ob r
 | [],_,_,_,hl=>hl
 | o::rest,fr,hp,r,hl=>by
  simp only [aops] at hl ⊢;split at hl
  . split at hl
    . rename_i e;rw [zmo h e];exact zmp h rest _ _ _ hl
    . rename_i e;rw [zmo h e];exact hl
    . cases hl
  . exact zmp h rest _ _ _ hl
  . cases hl
theorem zih {a b:Caller} (h:Caller.Le a b) {ops:List Oper}:∀ (rest:List Oper) (i:Nat) (done:List (Nat×Foot)) (fr:zi) (hp:za) (r:zi×za),adraw T a ops rest i done fr hp=Ob r->adraw T b ops rest i done fr hp=Ob r
 | [],_,_,_,_,_,hl=>hl
 | o::rest,i,done,fr,hp,r,hl=>by
  simp only [adraw] at hl ⊢;split at hl
  . split at hl
    . rename_i e;rw [zmo h e];cases hf:zcC ops i _ done with
      | false=>rw [hf] at hl; cases hl
      | true=>
       rw [hf] at hl;simp only [cond_true] at hl ⊢;simp only [hf,cond_true];exact zih h rest _ _ _ _ _ hl
    . cases hl
  . exact zih h rest _ _ _ _ _ hl
  . cases hl
theorem zqA {a b:Runner} (h:Runner.Le a b) {f:FuncId} {as:List zd} {hp:za} {r:zj2×za} (hl:zeE T a f as hp=Ob r):zeE T b f as hp=Ob r:=by
 unfold zeE at hl ⊢;split at hl
 . rename_i F hF;cases hb:Nat.blt F.ntmps as.length with
   | true=>rw [hb] at hl; cases hl
   | false=>
    rw [hb] at hl;simp only [cond_false] at hl ⊢;split at hl
    . rename_i c hc;split at hl<;>first | (rename_i e; simp only [h _ _ _ _ e]; exact hl) | cases hl
    . cases hl
 . cases hl
theorem zrJ {a b:Runner} (h:Runner.Le a b) {l:Nat} {as:List zd} {hp:za} {r:zj2×za} (hl:around a l as hp=Ob r):around b l as hp=Ob r:=by
 unfold around at hl ⊢;split at hl
 . rename_i L hL;split at hl
   . rename_i hc;rw [if_pos hc];split at hl
     . rename_i e;simp only [h _ _ _ _ e];split at hl
       . rename_i L1 hL1;split at hl
         . rename_i hr;rw [if_pos hr];split at hl<;>first | (rename_i e; simp only [h _ _ _ _ e]; exact hl) | cases hl
         . cases hl
       . cases hl
     . cases hl
   . cases hl
 . cases hl
theorem zgz {a b:Runner} (h:Runner.Le a b):Caller.Le (acall T a) (acall T b):=by
 intro f as hp r hl;unfold acall at hl ⊢;split at hl
 . split at hl
   . exact hl
   . exact zqA h hl
 . exact zrJ h hl
 . cases hl
theorem znt:∀ n,Runner.Le (aexec T n) (aexec T (n+1))
 | 0=>by intro c fr h r hl; simp [aexec] at hl
 | n+1=>by
  have ih:=znt n;have ihc:=zgz (T:=T) ih;intro c fr h r hl;cases c with
  | skip=>exact hl
  | label l=>exact hl
  | region id ops draw=>
   rw [aexec] at hl ⊢;cases draw with
   | true=>
    simp only [if_true] at hl ⊢;split at hl
    ·rename_i e;simp only [zih ihc _ _ _ _ _ _ e];exact hl
    ·cases hl
   | false=>
    simp only [Bool.false_eq_true,if_false] at hl ⊢;exact zmp ihc _ _ _ _ hl
  | seq x y=>
   rw [aexec] at hl ⊢;cases e:aexec T n x fr h with
   | none=>rw [e] at hl; cases hl
   | some q=>
    obtain ⟨ex,fr',h'⟩:=q;rw [ih _ _ _ _ e];rw [e] at hl;cases ex<;>first | exact hl | exact ih _ _ _ _ hl
  | cond c x y=>
   rw [aexec] at hl ⊢;split at hl
   ·rename_i t e;exact ih _ _ _ _ hl
   ·cases hl
  | block id c=>
   rw [aexec] at hl ⊢;cases e:aexec T n c fr h with
   | none=>rw [e] at hl; cases hl
   | some q=>
    rw [ih _ _ _ _ e];rw [e] at hl;exact hl
  | loop c=>
   rw [aexec] at hl ⊢;cases e:aexec T n c fr h with
   | none=>rw [e] at hl; cases hl
   | some q=>
    obtain ⟨ex,fr',h'⟩:=q;rw [ih _ _ _ _ e];rw [e] at hl;cases ex<;>first | exact hl | exact ih _ _ _ _ hl
  | rangeFunc f params assign body=>
   rw [aexec] at hl ⊢;split at hl<;>first | (rename_i e; simp only [ihc _ _ _ _ e]; exact hl) | cases hl
  | exit id=>exact hl
  | scope c=>
   rw [aexec] at hl ⊢;cases e:aexec T n c fr h with
   | none=>rw [e] at hl; cases hl
   | some q=>
    rw [ih _ _ _ _ e];rw [e] at hl;exact hl
  | goto l=>exact hl
  | ret=>exact hl
  | refuse _=>simp [aexec] at hl
theorem zdZ {n m:Nat} (h:n<=m):Runner.Le (aexec T n) (aexec T m):=by
  induction m with
  | zero=>
      have:n=0:=J
      subst this; exact λ_ _ _ _ q=>q
  | succ m ih=>
    by_cases e:n=m+1
    · subst e; exact λ_ _ _ _ q=>q
    · exact λc fr hp r q=>znt m c fr hp r (ih J c fr hp r q)
end
section
variable (T:Tab)
def Run (c:Code) (fr:zi) (h:za) (Q:zaQ->zi->za->Prop):Prop:=∃ n e fr' h',aexec T n c fr h=Ob (e,fr',h')/\Q e fr' h'
def Ops (ops rest:List Oper) (fr:zi) (h:za) (Q:zaQ->zi->za->Prop):Prop:=∃ n e fr' h',aops T (acall T (aexec T n)) ops rest fr h=Ob (e,fr',h')/\Q e fr' h'
def Draw (ops rest:List Oper) (i:Nat) (done:List (Nat×Foot)) (fr:zi) (h:za) (Q:zi->za->Prop):Prop:=∃ n fr' h',adraw T (acall T (aexec T n)) ops rest i done fr h=Ob (fr',h')/\Q fr' h'
def zjy (f:zd) (vs:List zd) (h:za) (Q:zj2->za->Prop):Prop:=∃ n r h',acall T (aexec T n) f vs h=Ob (r,h')/\Q r h'
def zlc (g:FuncId) (vs:List zd) (h:za) (Q:zj2->za->Prop):Prop:=∃ n r h',zeE T (aexec T n) g vs h=Ob (r,h')/\Q r h'
variable {T}
variable {fr:zi} {h:za} {Q:zaQ->zi->za->Prop}
theorem Run.mono {c:Code} {Q Q':zaQ->zi->za->Prop} (r:Run T c fr h Q) (hq:∀ e fr' h',Q e fr' h'->Q' e fr' h'):Run T c fr h Q':=
 let ⟨n,e,fr',h',a,b⟩:=r; ⟨n,e,fr',h',a,hq _ _ _ b⟩
theorem zpp (q:Q .normal fr h):Run T .skip fr h Q:=⟨1,_,_,_,rfl,q⟩
theorem zrK {l:Nat} (q:Q .normal fr h):Run T (.label l) fr h Q:=⟨1,_,_,_,rfl,q⟩
theorem zpq {id:Nat} (q:Q (.exit id) fr h):Run T (.exit id) fr h Q:=⟨1,_,_,_,rfl,q⟩
theorem zwJ (q:Q .ret fr h):Run T .ret fr h Q:=⟨1,_,_,_,rfl,q⟩
def zCm (T:Tab) (b:Code) (Q:zaQ->zi->za->Prop) (e:zaQ) (fr:zi) (h:za):Prop:=
 match e with
 | .normal=>Run T b fr h Q
 | e=>Q e fr h
theorem zwK {a b:Code} (r:Run T a fr h (zCm T b Q)):Run T (.seq a b) fr h Q:=by
 obtain ⟨n,e,fr',h',h1,h2⟩:=r;cases e with
 | normal=>
  obtain ⟨m,e2,fr2,hh2,h3,h4⟩:=h2;refine ⟨max n m+1,e2,fr2,hh2, ?_,h4⟩;rw [aexec,zdZ (Nat.le_max_left n m) _ _ _ _ h1];exact zdZ (Nat.le_max_right n m) _ _ _ _ h3
 | exit id=>exact ⟨n+1,_,_,_,by rw [aexec,h1],h2⟩
 | goto l=>exact ⟨n+1,_,_,_,by rw [aexec,h1],h2⟩
 | ret=>exact ⟨n+1,_,_,_,by rw [aexec,h1],h2⟩
 | pan v=>exact ⟨n+1,_,_,_,by rw [aexec,h1],h2⟩
theorem zui {c:Operand} {a b:Code} {t:Bool} (hc:fr.op c=.bool t) (r:Run T (if t then a else b) fr h Q):Run T (.cond c a b) fr h Q:=by
 obtain ⟨n,e,fr',h',h1,h2⟩:=r;exact ⟨n+1,e,fr',h',by rw [aexec,hc]; exact h1,h2⟩
def zpr (id:Nat) (Q:zaQ->zi->za->Prop) (e:zaQ) (fr:zi) (h:za):Prop:=
 match e with
 | .exit id'=>if id'=id then Q .normal fr h else Q (.exit id') fr h
 | e=>Q e fr h
theorem zrL {id:Nat} {c:Code} (r:Run T c fr h (zpr id Q)):Run T (.block id c) fr h Q:=by
 obtain ⟨n,e,fr',h',h1,h2⟩:=r;cases e with
 | exit id'=>
  by_cases q:id'=id
  . subst q;refine ⟨n+1,.normal,fr',h',by rw [aexec,h1]; simp,by simpa [zpr] using h2⟩
  . refine ⟨n+1,.exit id',fr',h',by rw [aexec,h1]; simp [q],by simpa [zpr,q] using h2⟩
 | normal=>exact ⟨n+1,_,_,_,by rw [aexec,h1],h2⟩
 | goto l=>exact ⟨n+1,_,_,_,by rw [aexec,h1],h2⟩
 | ret=>exact ⟨n+1,_,_,_,by rw [aexec,h1],h2⟩
 | pan v=>exact ⟨n+1,_,_,_,by rw [aexec,h1],h2⟩
theorem zrM {c:Code} (r:Run T c fr h Q) (hq:∀ l fr' h',¬ Q (.goto l) fr' h'):Run T (.scope c) fr h Q:=by
 obtain ⟨n,e,fr',h',h1,h2⟩:=r;cases e with
 | goto l=>exact absurd h2 (hq _ _ _)
 | normal=>exact ⟨n+1,_,_,_,by rw [aexec,h1],h2⟩
 | exit l=>exact ⟨n+1,_,_,_,by rw [aexec,h1],h2⟩
 | ret=>exact ⟨n+1,_,_,_,by rw [aexec,h1],h2⟩
 | pan v=>exact ⟨n+1,_,_,_,by rw [aexec,h1],h2⟩
theorem zqB {id:Nat} {ops:Array Oper} (r:Ops T ops.toList ops.toList fr h Q):Run T (.region id ops Oc) fr h Q:=by
 obtain ⟨n,e,fr',h',h1,h2⟩:=r;exact ⟨n+1,e,fr',h',by rw [aexec]; exact h1,h2⟩
theorem zuj {id:Nat} {ops:Array Oper} (r:Draw T ops.toList ops.toList 0 [] fr h (Q .normal)):Run T (.region id ops Od) fr h Q:=by
 obtain ⟨n,fr',h',h1,h2⟩:=r;exact ⟨n+1,.normal,fr',h',by rw [aexec]; simp [h1],h2⟩
theorem zwL {ops:List Oper} (q:Q .normal fr h):Ops T ops [] fr h Q:=⟨0,_,_,_,rfl,q⟩
theorem zwM {ops rest:List Oper} {o:Oper} {v:zd} {h':za} (hw:awanted ops fr o.guard=Ob Od) (ha:aop T fr.op h o.op=Ob (.val v h')) (r:Ops T ops rest (putDst fr o.dst v) h' Q):Ops T ops (o::rest) fr h Q:=by
 obtain ⟨n,e,fr',h2,h3,h4⟩:=r;exact ⟨n,e,fr',h2,by simp only [aops,hw,astep,ha]; exact h3,h4⟩
theorem zuk {ops rest:List Oper} {o:Oper} (hw:awanted ops fr o.guard=Ob Oc) (r:Ops T ops rest (putDst fr o.dst unit) h Q):Ops T ops (o::rest) fr h Q:=by
 obtain ⟨n,e,fr',h2,h3,h4⟩:=r;exact ⟨n,e,fr',h2,by simp only [aops,hw]; exact h3,h4⟩
theorem zul {ops rest:List Oper} {o:Oper} {f:zd} {vs:List zd} (hw:awanted ops fr o.guard=Ob Od) (ha:aop T fr.op h o.op=Ob (.call f vs))
 (r:zjy T f vs h λr h'=>∃ v,r=.ret v/\Ops T ops rest (putDst fr o.dst v) h' Q):Ops T ops (o::rest) fr h Q:=by
 obtain ⟨n,r,h1,h2,v,rfl,m,e,fr',h3,h4,h5⟩:=r;refine ⟨max n m,e,fr',h3, ?_,h5⟩;have c1:=zgz (T:=T) (zdZ (Nat.le_max_left n m)) _ _ _ _ h2;have c2:=zmp (T:=T) (zgz (zdZ (Nat.le_max_right n m))) _ _ _ _ h4;simp only [aops,hw,astep,ha,c1];exact c2
theorem zrN {ops:List Oper} {j d:Nat} {want b:Bool} (hd:(ops[j]?).bind (λ(o:Oper)=>o.dst)=Ob d) (hv:fr.ev d=.bool b):awanted ops fr (Ob (j,want))=Ob (b==want):=by
 unfold awanted;simp only [hd,hv]
theorem zps {ops:List Oper} {i:Nat} {done:List (Nat×Foot)} {Q:zi->za->Prop} (q:Q fr h):Draw T ops [] i done fr h Q:=⟨0,_,_,rfl,q⟩
theorem znu {ops rest:List Oper} {o:Oper} {i:Nat} {done:List (Nat×Foot)} {Q:zi->za->Prop} (hw:awanted ops fr o.guard=Ob Oc) (r:Draw T ops rest (i+1) done (putDst fr o.dst unit) h Q):Draw T ops (o::rest) i done fr h Q:=by
 obtain ⟨n,fr',h2,h3,h4⟩:=r;exact ⟨n,fr',h2,by simp only [adraw,hw]; exact h3,h4⟩
theorem zum {ops rest:List Oper} {o:Oper} {i:Nat} {done:List (Nat×Foot)} {Q:zi->za->Prop} {v:zd} {h':za} {f:Foot} (hw:awanted ops fr o.guard=Ob Od) (ha:aop T fr.op { h with wm:=h.next } o.op=Ob (.val v h'))
 (hf:foot fr.op o=f) (hr:f.rall=Oc) (hk:zcC ops i f done=Od) (r:Draw T ops rest (i+1) ((i,f)::done) (putDst fr o.dst v) { h' with wm:=min h.wm h'.wm } Q):Draw T ops (o::rest) i done fr h Q:=by
 obtain ⟨n,fr',h2,h3,h4⟩:=r;refine ⟨n,fr',h2, ?_,h4⟩;have e:zfT (foot fr.op o) h h'=f:=by rw [hf]; unfold zfT; rw [hr]; rfl
 simp only [adraw,hw,astep,ha,e,hk,cond_true];exact h3
end
end Go.Ai