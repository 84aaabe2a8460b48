/- An abstract interpreter for the model's code: the interpreter as a whole. -/
import Derived.Test.YtghlaibcihhbcaaGreatK1
import Derived.Orders
set_option linter.unusedSimpArgs false
set_option linter.unusedVariables false
set_option linter.unusedSectionVars false
namespace Go.Ai
open Option renaming bind->Zb,bind_some->Zs
def Keeps (h h':za):Prop:=h.next<=h'.next/\h'.wm<=h.wm/\∀ b,b<h.next->b<h'.wm->h'.get b=h.get b
def zfr (call:Caller):Prop:=∀ f args h r h',call f args h=some (r,h')->Keeps h h'
def zjk (run:Runner):Prop:=∀ c fr h e fr' h',run c fr h=some (e,fr',h')->Keeps h h'
section
variable {T:Tab} {P:Program} (ok:T.Ok P) {base:Nat}
def zub (T:Tab) (P:Program) (base:Nat):Prop:=
 ∀ (call:Caller),zkX P base call->zfr call->∀ (ops:Array Oper) (n:Nat),zqo n ops->zhB ops.toList 0=true->zir ops.toList ops.toList 0=true ->
  ∀ (fr:zi) (h:za) (fr':zi) (h':za),adraw T call ops.toList ops.toList 0 [] fr h=some (fr',h') ->
   ∀ (ρ:Emb) (w:World) (ds:List Deferred) (rnd:Option Nat) (tmps:Array Value) (t:Nat),Pre base ρ h w ds rnd n fr tmps ->
    ∀ (fn:FuncId) (kind:CallKind) (k:List Item) (cs:List Frame),∃ tmps' w' ρ',tmps'.size=n/\zjE ρ' fr' tmps'/\zeJ base ρ' h' w'/\Trans ρ h w ρ' h' w' /\
     Steps P (lone (fat fn kind rnd tmps ds (.inRegion ops (Region.schedule true ops t)::k)) cs w) (lone (fat fn kind rnd tmps' ds k) cs w')
theorem zhY {fn:FuncId} {tmps:Array Value} {params:Array Nat} {assign body:Code} (w:World) :
 (Instr.enterLoop fn tmps params assign body none).run P w=.ok (w.heap.size+1,[{ target:=.collected w.heap.size,args:=#[] }])
  { w with heap:=(w.heap.push (.deferred (some []))).push (.loop { state:=.ready,pending:=none,fn,tmps,params,assign,body,defers:=w.heap.size }) }:=by
 simp only [Instr.enterLoop,Sem.run_bind,run_newObj,Result.andThen_ok,Sem.run_pure,Array.size_push]
theorem zhZ {fn:FuncId} {tmps:Array Value} {params:Array Nat} {assign body:Code} (w:World) {l:Nat} {L:Loop} (hg:w.heap[l]?=some (.loop L)) :
 (Instr.enterLoop fn tmps params assign body (some l)).run P w=.ok (w.heap.size,[])
  { w with heap:=w.heap.push (.loop { state:=.ready,pending:=none,fn,tmps,params,assign,body,defers:=L.defers }) }:=by
 simp only [Instr.enterLoop,Sem.run_bind,zfq hg,Result.andThen_ok,Sem.run_pure,run_newObj]
theorem zeJ.grow {ρ:Emb} {h:za} {w w':World} (hr:zeJ base ρ h w) {o:Obj} (hw:w'.heap=w.heap.push o) (h1:w'.os=w.os) (h2:w'.tape=w.tape) (h3:w'.output=w.output):zeJ base ρ h w'/\Trans ρ h w ρ h w':=by
 have hold:∀ k,k<w.heap.size->w'.heap[k]?=w.heap[k]?:=λk hk=>by rw [hw,Array.getElem?_push,if_neg (by omega)]
 have hsz:w'.heap.size=w.heap.size+1:=by rw [hw]; simp
 exact ⟨⟨⟨λb l hb=>by have:=hr.clt b l hb; omega,λb l hb=>(hr.blk b l hb).mono (.refl _) (hold _ (hr.clt b l hb)),hr.inj,by have:=hr.base; omega⟩,hr.lt⟩,
  .same (by omega) (λk hk _=>hold k hk) h1 h2 h3⟩
theorem zmD {fn:FuncId} {kind:CallKind} {rnd:Option Nat} {tmps:Array Value} {ds mark:List Deferred} {k:List Item} {cs:List Frame} {w w1:World} {f:Operand} {params:Array Nat} {assign body:Code} {l:Nat} {nx:Next} {s:Frame}
 (he:(Instr.enterLoop fn tmps params assign body rnd).run P w=.ok (l,mark) w1)
 (hr:(do let d ← Deferred.ofValue (evT tmps f) #[.func (.yield l) #[] #[]]; invoke d.target d.args:Sem Next).run P w1=.ok nx w1) (hs:zis P nx=some s) :
 step P (lone (fat fn kind rnd tmps ds (.code (.rangeFunc f params assign body)::k)) cs w)=.next (lone s (fat fn kind rnd tmps (mark++ds) (.inRangeFunc l::k)::cs) w1):=by
 have hev:(fat fn kind rnd tmps (mark++ds) (.inRangeFunc l::k)).eval=evT tmps:=zlu ..;have hres:(do let d ← resolve (evT tmps) { callee:=.value f,args:=#[.const (.func (.yield l) #[] #[])],argTypes:=#[] } 0; invoke d.target d.args:Sem Next).run P w1=.ok nx w1:=by
  simpa [resolve,evT] using hr
 refine step_lone_go ?_;simp only [fat] at hev;simp only [stepG,stepG.exec,fat,Sem.runT_eq,he,hev];cases nx<;>simp [zis] at hs<;>subst hs<;>simp [stepG.apply,hres]
theorem znL {w:World} {l:Nat} {L:Loop} (hg:w.heap[l]?=some (.loop L)) (hb:L.state≠.busy) :
 (Instr.endLoop l).run P w=.ok L.pending { w with heap:=w.heap.setIfInBounds l (.loop { L with state:=.exhausted }) }:=by
 have hb':(L.state==.busy)=false:=by simpa using hb
 simp only [Instr.endLoop,Sem.run_bind,zfq hg,Result.andThen_ok,hb',Bool.false_eq_true,if_false,Sem.run_pure,zhC hg]
theorem znM {fn:FuncId} {kind:CallKind} {rnd:Option Nat} {tmps:Array Value} {ds:List Deferred} {k:List Item} {cs:List Frame} {w:World} {l:Nat} {L:Loop} (hg:w.heap[l]?=some (.loop L)) (hb:L.state≠.busy) :
 step P (lone (fat fn kind rnd tmps ds (.endRangeFunc l::k)) cs w)=.next (lone (fat fn kind rnd tmps ds ((L.pending.map Item.code).toList++k)) cs { w with heap:=w.heap.setIfInBounds l (.loop { L with state:=.exhausted }) }):=by
 have h:=znL (P:=P) hg hb;refine step_lone_go ?_;simp [stepG,stepG.exec,fat,Sem.runT_eq,h]
include ok in
theorem zoB (hdraw:zub T P base) (hkeep:∀ n,zjk (aexec T n)) (hck:∀ run,zjk run->zfr (acall T run)):∀ n,RunOk P base (aexec T n)
  | 0=>by intro c fr h e fr' h' hl; simp [aexec] at hl
  | m+1=>by
    have ih:=zoB hdraw hkeep hck m;have hcall:=zsw ok ih;intro c fr h e fr' h' hl n hco ρ w ds rnd tmps pre fn kind k cs x hx;have hxc:(∀ c',c≠.loop c')->x=.code c:=λhn=>hx.resolve_right (λ⟨c',e,_⟩=>hn c' e);cases c with
    | skip=>
      have hx':=hxc (λ_ q=>by cases q); subst hx';simp only [aexec] at hl; cases hl;exact ⟨.normal,tmps,ds,w,ρ,⟨trivial,pre.size,pre.frame,pre.heap,.refl _ _ _,pre.dsok,⟨[],rfl,by simp⟩,pre.dsnd⟩,pre.norm,Steps.one zuC⟩
    | label l=>
      have hx':=hxc (λ_ q=>by cases q); subst hx';simp only [aexec] at hl; cases hl;exact ⟨.normal,tmps,ds,w,ρ,⟨trivial,pre.size,pre.frame,pre.heap,.refl _ _ _,pre.dsok,⟨[],rfl,by simp⟩,pre.dsnd⟩,pre.norm,Steps.one zss⟩
    | exit id=>
      have hx':=hxc (λ_ q=>by cases q); subst hx';simp only [aexec] at hl; cases hl;exact ⟨.exit id,tmps,ds,w,ρ,⟨rfl,pre.size,pre.frame,pre.heap,.refl _ _ _,pre.dsok,⟨[],rfl,by simp⟩,pre.dsnd⟩,pre.norm,⟨k,rfl,.refl _ _⟩⟩
    | goto l=>
      have hx':=hxc (λ_ q=>by cases q); subst hx';simp only [aexec] at hl; cases hl;exact ⟨.goto l,tmps,ds,w,ρ,⟨rfl,pre.size,pre.frame,pre.heap,.refl _ _ _,pre.dsok,⟨[],rfl,by simp⟩,pre.dsnd⟩,pre.norm,⟨k,rfl,.refl _ _⟩⟩
    | ret=>
      have hx':=hxc (λ_ q=>by cases q); subst hx';simp only [aexec] at hl; cases hl;exact ⟨.ret,tmps,ds,w,ρ,⟨trivial,pre.size,pre.frame,pre.heap,.refl _ _ _,pre.dsok,⟨[],rfl,by simp⟩,pre.dsnd⟩,pre.norm,⟨k,.refl _ _⟩⟩
    | refuse s=>simp [aexec] at hl
    | region id ops draw=>
      have hx':=hxc (λ_ q=>by cases q); subst hx';simp only [zcQ,Bool.and_eq_true] at hco;have hops:=zst hco.1;simp only [aexec] at hl;cases draw with
      | false=>
        simp only [Bool.false_eq_true,if_false] at hl;obtain ⟨e',tmps',ds',w',ρ',h1,h2,h3⟩:=znK ok hcall hops ops.toList 0 fr h e fr' h' rfl hl ρ w ds rnd tmps pre fn kind k cs;refine ⟨e',tmps',ds',w',ρ',h1,h2,Lands.of_steps (.one zqm) ?_⟩;rw [List.range_eq_range'];have:ops.size=ops.toList.length:=by simp
        rw [this];exact h3
      | true=>
        simp only [if_true] at hl;have h2:=hco.2;simp only [Bool.not_true,Bool.false_or,Bool.and_eq_true] at h2;split at hl
        case h_2=>cases hl
        rename_i fr2 h2' had;cases hl;have hpre:Pre base ρ h { w with drawn:=w.drawn+1 } ds rnd n fr tmps:=⟨pre.size,pre.frame,pre.heap.heap rfl,pre.dsok,pre.dsnd,pre.rndok,pre.norm⟩;obtain ⟨tmps',w',ρ',q1,q2,q3,q4,q5⟩:=hdraw _ hcall (hck _ (hkeep m)) ops n hops h2.1 h2.2 fr h fr' h' had ρ { w with drawn:=w.drawn+1 } ds rnd tmps (w.tape w.drawn (.order fn id)) hpre fn kind k cs;have tr0:Trans ρ h w ρ h { w with drawn:=w.drawn+1 }:=.heap rfl rfl rfl rfl;have tr:=tr0.trans q4;refine ⟨.normal,tmps',ds,w',ρ',⟨trivial,q1,q2,q3,tr,pre.dsok.trans pre.heap tr,⟨[],rfl,by simp⟩,pre.dsnd⟩,pre.norm, ?_⟩;have hst:=zuG (P:=P) (fn:=fn) (kind:=kind) (rnd:=rnd) (tmps:=tmps) (ds:=ds) (k:=k) (cs:=cs) (w:=w) (id:=id) (ops:=ops);rw [ok.mixed] at hst;exact Steps.head hst q5
    | seq a b=>
      have hx':=hxc (λ_ q=>by cases q); subst hx';simp only [zcQ,Bool.and_eq_true] at hco;simp only [aexec] at hl;cases h1:aexec T m a fr h with
      | none=>rw [h1] at hl; simp at hl
      | some out=>
        obtain ⟨e1,fr1,ha1⟩:=out;rw [h1] at hl;obtain ⟨e',tmps1,ds1,w1,ρ1,p1,n1,l1⟩:=ih _ _ _ _ _ _ h1 n hco.1 ρ w ds rnd tmps pre fn kind (.code b::k) cs _ (.inl rfl);have hex:=p1.exit;by_cases he:e1=.normal
        · subst he;cases e'<;>try exact hex.elim
          simp only at hl;obtain ⟨e'',tmps2,ds2,w2,ρ2,p2,n2,l2⟩:=ih _ _ _ _ _ _ hl n hco.2 ρ1 w1 ds1 rnd tmps1 (pre.post p1 n1) fn kind k cs _ (.inl rfl);exact ⟨e'',tmps2,ds2,w2,ρ2,p1.andThen p2,n2,Lands.of_steps (.head zt9 l1) l2⟩
        · have hl':some (e1,fr1,ha1)=some (e,fr',h'):=by
            cases e1<;>first | (exact absurd rfl he) | exact hl
          cases hl';have hne:e'≠.normal:=by
            rintro rfl
            cases e<;>first | exact he rfl | exact hex
          exact ⟨e',tmps1,ds1,w1,ρ1,p1,n1,Lands.of_steps (.one zt9) (.pass (x:=.code b) rfl hne l1)⟩
    | cond c a b=>
      have hx':=hxc (λ_ q=>by cases q); subst hx';simp only [zcQ,Bool.and_eq_true] at hco;simp only [aexec] at hl;split at hl
      case h_2=>cases hl
      rename_i t ht;have hv:=zjM pre.frame c;rw [ht] at hv;generalize hcc:evT tmps c=cc at hv;cases hv;obtain ⟨e',tmps1,ds1,w1,ρ1,p1,n1,l1⟩:=ih _ _ _ _ _ _ hl n (by cases t<;>simp [hco]) ρ w ds rnd tmps pre fn kind k cs _ (.inl rfl);exact ⟨e',tmps1,ds1,w1,ρ1,p1,n1,Lands.of_steps (.one (zuD hcc)) l1⟩
    | block id c=>
      have hx':=hxc (λ_ q=>by cases q); subst hx';simp only [zcQ] at hco;simp only [aexec] at hl;cases h1:aexec T m c fr h with
      | none=>rw [h1] at hl; simp at hl
      | some out=>
        obtain ⟨e1,fr1,ha1⟩:=out;rw [h1] at hl;obtain ⟨e',tmps1,ds1,w1,ρ1,p1,n1,l1⟩:=ih _ _ _ _ _ _ h1 n hco ρ w ds rnd tmps pre fn kind (.inBlock id::k) cs _ (.inl rfl);have hex:=p1.exit;have hpst:=λ(q:zx6 ρ1 .normal .normal)=>(⟨q,p1.size,p1.frame,p1.heap,p1.trans,p1.dsok,p1.dsnew,p1.dsnd⟩:Post base ρ h w ds n .normal fr1 ha1 .normal tmps1 ds1 w1 ρ1);cases e1 with
        | normal=>
          cases e'<;>try exact hex.elim
          simp only at hl; cases hl;exact ⟨.normal,tmps1,ds1,w1,ρ1,p1,n1,Steps.head zhc (Steps.trans l1 (.one zpq))⟩
        | exit id1=>
          cases e'<;>try exact hex.elim
          rename_i id2;have hid:id1=id2:=hex;subst hid;obtain ⟨k2,hk2,hst⟩:=l1;simp only at hl;split at hl
          · rename_i hid; subst hid;cases hl;refine ⟨.normal,tmps1,ds1,w1,ρ1,hpst trivial,n1, ?_⟩;exact Steps.head zhc (Steps.trans hst (.one (zuF (by rw [hk2]; simp [exitTo]))))
          · rename_i hid;cases hl;refine ⟨.exit id1,tmps1,ds1,w1,ρ1,p1,n1,⟨k2, ?_,Steps.head zhc hst⟩⟩;rw [hk2];have:(id==id1)=false:=by simp; exact λq=>hid q.symm
            simp [exitTo,this]
        | goto l=>
          cases e'<;>try exact hex.elim
          simp only at hl; cases hl;obtain ⟨k2,hk2,hst⟩:=l1;exact ⟨_,tmps1,ds1,w1,ρ1,p1,n1,⟨k2,by rw [hk2]; simp [gotoIn],Steps.head zhc hst⟩⟩
        | ret=>
          cases e'<;>try exact hex.elim
          simp only at hl; cases hl;obtain ⟨k2,hst⟩:=l1;exact ⟨_,tmps1,ds1,w1,ρ1,p1,n1,⟨k2,Steps.head zhc hst⟩⟩
        | pan v=>
          cases e'<;>try exact hex.elim
          simp only at hl; cases hl;obtain ⟨k2,a,hst⟩:=l1;exact ⟨_,tmps1,ds1,w1,ρ1,p1,n1,⟨k2,a,Steps.head zhc hst⟩⟩
    | scope c=>
      have hx':=hxc (λ_ q=>by cases q); subst hx';simp only [zcQ] at hco;simp only [aexec] at hl;cases h1:aexec T m c fr h with
      | none=>rw [h1] at hl; simp at hl
      | some out=>
        obtain ⟨e1,fr1,ha1⟩:=out;rw [h1] at hl;obtain ⟨e',tmps1,ds1,w1,ρ1,p1,n1,l1⟩:=ih _ _ _ _ _ _ h1 n hco ρ w ds rnd tmps pre fn kind (.inScope c::k) cs _ (.inl rfl);have hex:=p1.exit;cases e1 with
        | normal=>
          cases e'<;>try exact hex.elim
          simp only at hl; cases hl;exact ⟨.normal,tmps1,ds1,w1,ρ1,p1,n1,Steps.head zjj (Steps.trans l1 (.one zpr))⟩
        | exit id1=>
          cases e'<;>try exact hex.elim
          simp only at hl; cases hl;obtain ⟨k2,hk2,hst⟩:=l1;exact ⟨_,tmps1,ds1,w1,ρ1,p1,n1,⟨k2,by rw [hk2]; simp [exitTo],Steps.head zjj hst⟩⟩
        | goto l=>simp at hl
        | ret=>
          cases e'<;>try exact hex.elim
          simp only at hl; cases hl;obtain ⟨k2,hst⟩:=l1;exact ⟨_,tmps1,ds1,w1,ρ1,p1,n1,⟨k2,Steps.head zjj hst⟩⟩
        | pan v=>
          cases e'<;>try exact hex.elim
          simp only at hl; cases hl;obtain ⟨k2,a,hst⟩:=l1;exact ⟨_,tmps1,ds1,w1,ρ1,p1,n1,⟨k2,a,Steps.head zjj hst⟩⟩
    | loop c=>
      have hst0:step P (lone (fat fn kind rnd tmps ds (x::k)) cs w)=.next (lone (fat fn kind rnd tmps ds (.code c::.inLoop c::k)) cs w):=by
        rcases hx with rfl | ⟨c',e,rfl⟩
        · exact zuE
        · cases e; exact zql
      simp only [zcQ] at hco;simp only [aexec] at hl;cases h1:aexec T m c fr h with
      | none=>rw [h1] at hl; simp at hl
      | some out=>
        obtain ⟨e1,fr1,ha1⟩:=out;rw [h1] at hl;obtain ⟨e',tmps1,ds1,w1,ρ1,p1,n1,l1⟩:=ih _ _ _ _ _ _ h1 n hco ρ w ds rnd tmps pre fn kind (.inLoop c::k) cs _ (.inl rfl);have hex:=p1.exit;by_cases he:e1=.normal
        · subst he;cases e'<;>try exact hex.elim
          simp only at hl;obtain ⟨e'',tmps2,ds2,w2,ρ2,p2,n2,l2⟩:=ih _ _ _ _ _ _ hl n (by simpa [zcQ] using hco) ρ1 w1 ds1 rnd tmps1 (pre.post p1 n1) fn kind k cs _ (.inr ⟨c,rfl,rfl⟩);exact ⟨e'',tmps2,ds2,w2,ρ2,p1.andThen p2,n2,Lands.of_steps (.head hst0 l1) l2⟩
        · have hl':some (e1,fr1,ha1)=some (e,fr',h'):=by
            cases e1<;>first | (exact absurd rfl he) | exact hl
          cases hl';have hne:e'≠.normal:=by
            rintro rfl
            cases e<;>first | exact he rfl | exact hex
          exact ⟨e',tmps1,ds1,w1,ρ1,p1,n1,Lands.of_steps (.one hst0) (.pass (x:=.inLoop c) rfl hne l1)⟩
    | rangeFunc f params assign body=>
      have hx':=hxc (λ_ q=>by cases q); subst hx';simp only [zcQ,Bool.and_eq_true] at hco;simp only [aexec] at hl
      -- the loop is laid
      have enter:∃ l mark w1,(Instr.enterLoop fn tmps params assign body rnd).run P w=.ok (l,mark) w1/\zeJ base (ρ.add h.next ⟨l,0,0⟩) (h.push (.loop { state:=.ready,pending:=none,fr,params:=params.toList,assign,body })) w1 /\
          Trans ρ h w (ρ.add h.next ⟨l,0,0⟩) (h.push (.loop { state:=.ready,pending:=none,fr,params:=params.toList,assign,body })) w1/\zr9 (mark++ds) w1/\zlv (mark++ds) /\
          (∀ d∈mark,∀ r,d={ target:=.collected r,args:=#[] }->w.heap.size<=r)/\(rnd=none\/mark++ds=[]):=by
        have lay:∀ (w0:World) (dn:Nat),zeJ base ρ h w0->Trans ρ h w ρ h w0->∀ w1:World,w1.heap=w0.heap.push (.loop { state:=.ready,pending:=none,fn,tmps,params,assign,body,defers:=dn })->w1.os=w0.os->w1.tape=w0.tape->w1.output=w0.output ->
            zeJ base (ρ.add h.next ⟨w0.heap.size,0,0⟩) (h.push (.loop { state:=.ready,pending:=none,fr,params:=params.toList,assign,body })) w1 /\
            Trans ρ h w (ρ.add h.next ⟨w0.heap.size,0,0⟩) (h.push (.loop { state:=.ready,pending:=none,fr,params:=params.toList,assign,body })) w1:=by
          intro w0 dn hr0 ht0 w1 hw1 q1 q2 q3;obtain ⟨a,b⟩:=zlo hr0.toH0 hr0.none_next (.loop { state:=.ready,pending:=none,fr,params:=params.toList,assign,body }) _ w1 0 hw1 q1 q2 q3
            ⟨hr0.base,{ state:=.ready,pending:=none,fn,tmps,params,assign,body,defers:=dn },by rw [hw1]; simp,⟨rfl,λ_=>rfl,rfl,rfl,rfl,pre.frame.mono (.add pre.heap.none_next),λp hp=>by
              show p<tmps.size;rw [pre.size];have:=List.all_eq_true.1 hco.1.1 p hp;simpa using this,by show zcQ tmps.size assign=true; rw [pre.size]; exact hco.1.2,by show zcQ tmps.size body=true; rw [pre.size]; exact hco.2⟩⟩
          exact ⟨a.toH b hr0,ht0.trans b⟩
        cases hrnd:rnd with
        | none=>
          let w0:World:={ w with heap:=w.heap.push (.deferred (some [])) }
          obtain ⟨g1,g2⟩:=pre.heap.grow (w':=w0) rfl rfl rfl rfl;have hz:w0.heap.size=w.heap.size+1:=by simp [w0]
          obtain ⟨a,b⟩:=lay w0 w.heap.size g1 g2 { w with heap:=(w.heap.push (.deferred (some []))).push (.loop { state:=.ready,pending:=none,fn,tmps,params,assign,body,defers:=w.heap.size }) } rfl rfl rfl rfl;rw [hz] at a b;refine ⟨w.heap.size+1,_,_,zhY w,a,b, ?_, ?_, ?_,.inl rfl⟩
          · intro d hd;rcases List.mem_append.1 hd with hd | hd
            · simp at hd; subst hd;exact ⟨w.heap.size,rfl,by simp [Array.getElem?_push]⟩
            · obtain ⟨r,e1,e2⟩:=pre.dsok d hd;refine ⟨r,e1, ?_⟩;have hlt:r<w.heap.size:=(Array.getElem?_eq_some_iff.1 e2).1;simp only [Array.getElem?_push,Array.size_push];rw [if_neg (by omega),if_neg (by omega)];exact e2
          · refine List.pairwise_append.2 ⟨by simp,pre.dsnd,λd hd d' hd'=>?_⟩;simp at hd; subst hd
            rintro rfl
            obtain ⟨r,e1,e2⟩:=pre.dsok _ hd';simp at e1;subst e1;have hlt:=(Array.getElem?_eq_some_iff.1 e2).1;omega
          · intro d hd r hr;simp at hd; subst hd;simp at hr;omega
        | some l0=>
          obtain ⟨la,loc,L,r1,r2,r3⟩:=pre.rndok l0 hrnd;obtain ⟨_,L',r4,_⟩:=zit pre.heap r1 r3;subst r2;have hds:ds=[]:=pre.norm.resolve_left (by rw [hrnd]; simp);subst hds;obtain ⟨a,b⟩:=lay w L'.defers pre.heap (.refl _ _ _) { w with heap:=w.heap.push (.loop { state:=.ready,pending:=none,fn,tmps,params,assign,body,defers:=L'.defers }) } rfl rfl rfl rfl;exact ⟨w.heap.size,[],_,zhZ w r4,a,b,(λd hd=>by cases hd),.nil,(λd hd=>by cases hd),.inr rfl⟩
      obtain ⟨l,mark,w1,hrun,hr1,ht1,hd1,hn1,hm1,hnorm⟩:=enter;cases hca:acall T (aexec T m) (fr.op f) [.func (.yield h.next) [] []] (h.push (.loop { state:=.ready,pending:=none,fr,params:=params.toList,assign,body })) with
      | none=>rw [hca] at hl; simp at hl
      | some out=>
        obtain ⟨r,ha2⟩:=out;rw [hca] at hl;have hargs:zcm (ρ.add h.next ⟨l,0,0⟩) [.func (.yield h.next) [] []] (#[Value.func (.yield l) #[] #[]]:Array Value).toList:=
          .cons (.func _ _ [] [] #[] #[] (.inl ⟨h.next,l,rfl,rfl,⟨l,0,0⟩,Emb.add_same _ _ _,rfl⟩) rfl rfl (by simp) (by simp)) (.nil _)
        obtain ⟨nx,s,q1,q2,q3⟩:=hcall _ _ _ _ _ hca _ w1 (evT tmps f) _ ((zjM pre.frame f).mono ht1.ext) hargs hr1;obtain ⟨r',w2,ρ2,q4,q5,q6,q7⟩:=q3 (fat fn kind rnd tmps (mark++ds) (.inRangeFunc l::k)) cs;have hst:=zmD (ds:=ds) (k:=k) (cs:=cs) (kind:=kind) hrun q1 q2;have hall:=Steps.head hst q7;have tr2:=ht1.trans q6;have hd2:zr9 (mark++ds) w2:=hd1.trans hr1 q6;cases r with
        | pan v=>
          simp only at hl;cases hl;cases r' with
          | ret _=>exact q4.elim
          | pan v'=>
            exact ⟨.pan v',tmps,mark++ds,w2,ρ2,⟨q4,pre.size,pre.frame.mono tr2.ext,q5,tr2,hd2,⟨mark,rfl,hm1⟩,hn1⟩,hnorm,⟨.inRangeFunc l::k,rfl,hall⟩⟩
        | ret v=>
          cases r' with
          | pan _=>exact q4.elim
          | ret v'=>
            simp only at hl;split at hl
            case h_2=>cases hl
            rename_i L2 hg2;split at hl
            · cases hl
            rename_i hbusy;have hb2:ρ2 h.next=some ⟨l,0,0⟩:=q6.ext _ _ (Emb.add_same _ _ _);obtain ⟨hbase2,L2',hg2',hL2⟩:=zit q5 hb2 hg2;have hbusy':L2'.state≠.busy:=by rw [hL2.state]; exact hbusy
            have hLe:zgq ρ2 { L2 with state:=.exhausted } { L2' with state:=.exhausted }:=⟨rfl,λ_=>hL2.pending hbusy,hL2.params,hL2.assign,hL2.body,hL2.frame,hL2.okP,hL2.okA,hL2.okB⟩;obtain ⟨hr3,ht3⟩:=zlx q5 hb2 hg2 (L:={ L2 with state:=.exhausted }) ⟨rfl,rfl,rfl,rfl⟩ hLe;have hfin:(zsa.ret v').frame (fat fn kind rnd tmps (mark++ds) (.inRangeFunc l::k))=fat fn kind rnd tmps (mark++ds) (.endRangeFunc l::k):=by simp only [zsa.frame]; rfl
            rw [hfin] at hall;have hst3:=znM (P:=P) (fn:=fn) (kind:=kind) (rnd:=rnd) (tmps:=tmps) (ds:=mark++ds) (k:=k) (cs:=cs) hg2' hbusy';obtain ⟨w3,hw3⟩:∃ w3:World,w3={ w2 with heap:=w2.heap.setIfInBounds l (.loop { L2' with state:=.exhausted }) }:=⟨_,rfl⟩;have hall3:Steps P (lone (fat fn kind rnd tmps ds (.code (.rangeFunc f params assign body)::k)) cs w) (lone (fat fn kind rnd tmps (mark++ds) ((L2'.pending.map Item.code).toList++k)) cs w3):=by
              rw [hw3]; exact hall.trans (.one hst3)
            have tr3:=tr2.trans ht3;have hpost:∀ (e:zaH) (e':zlw),zx6 ρ2 e e'->Post base ρ h w ds n e fr (ha2.set h.next (.loop { L2 with state:=.exhausted })) e' tmps (mark++ds) w3 ρ2:=by
              rw [hw3];exact λe e' he=>⟨he,pre.size,pre.frame.mono tr3.ext,hr3,tr3,hd2.trans q5 ht3,⟨mark,rfl,hm1⟩,hn1⟩
            have hpend:=hL2.pending hbusy;split at hl
            · rename_i hp;cases hl;rw [hpend,hp] at hall3;exact ⟨.normal,tmps,_,_,ρ2,hpost .normal .normal trivial,hnorm,hall3⟩
            · rename_i hp;cases hl;rw [hpend,hp] at hall3;exact ⟨.ret,tmps,_,_,ρ2,hpost .ret .ret trivial,hnorm,⟨k,hall3⟩⟩
            · rename_i id hp;cases hl;rw [hpend,hp] at hall3;exact ⟨.exit id,tmps,_,_,ρ2,hpost (.exit id) (.exit id) rfl,hnorm,⟨k,rfl,hall3⟩⟩
            · cases hl
end
end Go.Ai
/- An abstract interpreter for the model's code: the water mark says which old blocks were not written. -/
namespace Go.Ai
open Option renaming bind->Zb,bind_some->Zs
theorem Keeps.refl (h:za):Keeps h h:=⟨Nat.le_refl _,Nat.le_refl _,λ_ _ _=>rfl⟩
theorem Keeps.trans {a b c:za} (h:Keeps a b) (h':Keeps b c):Keeps a c:=by
 refine ⟨Nat.le_trans h.1 h'.1,Nat.le_trans h'.2.1 h.2.1,λx hx hw=>?_⟩;rw [h'.2.2 x (Nat.lt_of_lt_of_le hx h.1) hw];exact h.2.2 x hx (Nat.lt_of_lt_of_le hw h'.2.1)
theorem Keeps.push (h:za) (x:zfN):Keeps h (h.push x):=
 ⟨Nat.le_succ _,Nat.le_refl _,λb hb _=>by rw [za.get_push,if_neg (by omega)]⟩
theorem Keeps.set (h:za) (b:Nat) (x:zfN):Keeps h (h.set b x):=by
 refine ⟨Nat.le_refl _,Nat.min_le_left _ _,λb' _ hw=>?_⟩;have:b'<min h.wm b:=hw;rw [za.get_set,if_neg (by omega)]
section
variable {T:Tab} {h h':za}
theorem zmE {t:TypeId} {a v:ze} (hl:astore T t h a v=some h'):Keeps h h':=by
 unfold astore at hl;repeat' split at hl
 all_goals first | (cases hl; done) | (cases hl; exact Keeps.set ..)
theorem zhs {elem:TypeId} {len n:Nat} {cap:Option Nat} {parts:List (Nat×ze)} {v:ze} (hl:zcK T elem len cap n h parts=some (v,h')):Keeps h h':=by
 unfold zcK at hl;repeat' split at hl
 all_goals first | (cases hl; done) | (cases hl; exact Keeps.push ..)
theorem zmF {st xt:TypeId} {s x v:ze} (hl:azeros T st xt s x h=some (v,h')):Keeps h h':=by
 unfold azeros at hl;repeat' split at hl
 all_goals first | (cases hl; done) | (cases hl; exact Keeps.push ..)
theorem zly {ts:Array TypeId} {s x v:ze} (hl:aappend T ts s x h=some (v,h')):Keeps h h':=by
  unfold aappend at hl;repeat' split at hl
  all_goals first
    | (cases hl; done)
    | exact zmF hl
    | (simp only at hl
       repeat' split at hl
       all_goals first
         | (cases hl; done)
         | (cases hl; first | exact Keeps.refl _ | exact Keeps.push .. | exact Keeps.set .. | exact (Keeps.set ..).trans (Keeps.push ..)))
theorem znN {ts:Array TypeId} {s x v:ze} (hl:acopy T ts s x h=some (v,h')):Keeps h h':=by
  unfold acopy at hl;repeat' split at hl
  all_goals first
    | (cases hl; done)
    | (simp only at hl
       repeat' split at hl
       all_goals first
         | (cases hl; done)
         | (cases hl; first | exact Keeps.refl _ | exact Keeps.set ..))
theorem zgH {t:TypeId} {m k v:ze} (hl:zbk T t m k v h=some h'):Keeps h h':=by
 unfold zbk at hl;repeat' split at hl
 all_goals first | (cases hl; done) | (cases hl; exact Keeps.set ..)
theorem zjO {ev:Operand->ze} {o:Op} {v:ze} (hl:aop T ev h o=some (.val v h')):Keeps h h':=by
 cases o<;>simp only [aop] at hl<;>(try (cases hl; done))<;>(try (obtain ⟨_,rfl⟩:=zC hl; exact Keeps.refl _))
 case move=>cases hl; exact Keeps.refl _
 case assign=>cases hl; exact Keeps.refl _
 case pick=>unfold zhU at hl; split at hl<;>cases hl; exact Keeps.refl _
 case alloc=>unfold zfW at hl; split at hl<;>cases hl; exact Keeps.push ..
 case box=>unfold zjB at hl; split at hl<;>cases hl; exact Keeps.push ..
 case buildSlice=>
  have hl:=zbl hl;unfold zdM at hl;repeat' split at hl
  all_goals first | (cases hl; done) | exact zhs hl
 case store=>exact zmE (zcd hl).1
 case nilCheck=>unfold zdj at hl; split at hl<;>cases hl<;>exact Keeps.refl _
 case makeInterface=>unfold zcq at hl; split at hl<;>cases hl; exact Keeps.refl _
 case makeFunc=>unfold zdk at hl; split at hl<;>cases hl; exact Keeps.refl _
 case makeMap=>unfold zeH at hl; split at hl<;>cases hl; exact Keeps.push ..
 case makeSlice=>
  have hl:=zbl hl;unfold zep at hl;repeat' split at hl
  all_goals first | (cases hl; done) | exact zhs hl
 case mapUpdate=>exact zgH (zcd hl).1
 case insert=>exact zgH (zcd hl).1
 case extract=>
  unfold zfp at hl;split at hl
  . obtain ⟨_,rfl⟩:=zC hl; exact Keeps.refl _
  . cases hl
 case call c=>
  unfold zcD at hl;split at hl
  . unfold abuiltin at hl;split at hl
    . split at hl
      . obtain ⟨_,rfl⟩:=zC hl; exact Keeps.refl _
      . cases hl
    . split at hl
      . obtain ⟨_,rfl⟩:=zC hl; exact Keeps.refl _
      . cases hl
    . exact zly (zbl hl)
    . exact znN (zbl hl)
    . obtain ⟨_,rfl⟩:=zC hl; exact Keeps.refl _
    . obtain ⟨_,rfl⟩:=zC hl; exact Keeps.refl _
    . cases hl
  . cases hl
  . cases hl
theorem zgt {call:Caller} (hc:zfr call) {ev:Operand->ze} {o:Op} {r:zjC} (hl:astep T call ev o h=some (r,h')):Keeps h h':=by
 unfold astep at hl;split at hl
 . rename_i ha; cases hl; exact zjO ha
 . exact hc _ _ _ _ _ hl
 . cases hl
end
theorem ziu {T:Tab} {call:Caller} (hc:zfr call) {ops:List Oper}:∀ (rest:List Oper) (fr:zi) (h:za) (e:zaH) (fr':zi) (h':za),aops T call ops rest fr h=some (e,fr',h')->Keeps h h'
 | [],fr,h,e,fr',h',hl=>by simp only [aops] at hl; cases hl; exact Keeps.refl _
 | o::rest,fr,h,e,fr',h',hl=>by
  simp only [aops] at hl;split at hl
  . split at hl
    . rename_i hs; exact (zgt hc hs).trans (ziu hc rest _ _ _ _ _ hl)
    . rename_i hs; cases hl; exact zgt hc hs
    . cases hl
  . exact ziu hc rest _ _ _ _ _ hl
  . cases hl
theorem zsx {h h':za} (hk:Keeps { h with wm:=h.next } h'):Keeps h { h' with wm:=min h.wm h'.wm }:=
 ⟨hk.1,Nat.min_le_left _ _,λb hb hw=>hk.2.2 b hb (by have:b<min h.wm h'.wm:=hw; omega)⟩
theorem zhD {T:Tab} {call:Caller} (hc:zfr call) {ops:List Oper}:∀ (rest:List Oper) (i:Nat) (done:List (Nat×Foot)) (fr:zi) (h:za) (fr':zi) (h':za),adraw T call ops rest i done fr h=some (fr',h')->Keeps h h'
 | [],i,done,fr,h,fr',h',hl=>by simp only [adraw] at hl; cases hl; exact Keeps.refl _
 | o::rest,i,done,fr,h,fr',h',hl=>by
  simp only [adraw] at hl;split at hl
  . split at hl
    . rename_i hs;have hk:=zsx (zgt hc hs);rename_i v h1;cases hf:zcc ops i (zfO (foot fr.op o) h h1) done with
      | false=>rw [hf] at hl; cases hl
      | true=>
       rw [hf] at hl;simp only [cond_true] at hl;exact hk.trans (zhD hc rest _ _ _ _ _ _ hl)
    . cases hl
  . exact zhD hc rest _ _ _ _ _ _ hl
  . cases hl
theorem zjP {T:Tab}:∀ run,zjk run->zfr (acall T run):=by
 intro run hr f args h r h' hl;unfold acall at hl;split at hl
 ·split at hl
  ·simp only [Option.map_eq_some_iff] at hl;obtain ⟨_,_,e⟩:=hl;cases e;exact Keeps.refl _
  unfold zeq at hl;split at hl
  case h_2=>cases hl
  rename_i F _;cases hb:Nat.blt F.ntmps _ with
  | true=>rw [hb] at hl; cases hl
  | false=>
   rw [hb] at hl;simp only [cond_false] at hl;repeat' split at hl
   all_goals first
    | (cases hl; done)
    | (rename_i hh _ _ _; cases hl; exact hr _ _ _ _ _ _ hh)
    | (rename_i hh _ _; cases hl; exact hr _ _ _ _ _ _ hh)
    | (rename_i hh _; cases hl; exact hr _ _ _ _ _ _ hh)
    | (rename_i hh; cases hl; exact hr _ _ _ _ _ _ hh)
 ·unfold around at hl;split at hl
  case h_2=>cases hl
  split at hl
  case isFalse=>cases hl
  split at hl
  case h_2=>cases hl
  rename_i h1;split at hl
  case h_2=>cases hl
  split at hl
  case isFalse=>cases hl
  have k1:=hr _ _ _ _ _ _ h1;split at hl;all_goals first
   | (cases hl; done)
   | (rename_i h2; cases hl; have k2:=hr _ _ _ _ _ _ h2; exact (k1.trans (Keeps.set ..)).trans (k2.trans (Keeps.set ..)))
   | (rename_i h2; cases hl; have k2:=hr _ _ _ _ _ _ h2; exact (k1.trans (Keeps.set ..)).trans k2)
 ·cases hl
theorem zjQ {T:Tab}:∀ n,zjk (aexec T n)
 | 0=>by intro c fr h e fr' h' hl; simp [aexec] at hl
 | n+1=>by
  have ih:=zjQ (T:=T) n;have hc:=zjP (T:=T) _ ih;intro c fr h e fr' h' hl;cases c with
  | skip=>simp only [aexec] at hl; cases hl; exact Keeps.refl _
  | label l=>simp only [aexec] at hl; cases hl; exact Keeps.refl _
  | exit id=>simp only [aexec] at hl; cases hl; exact Keeps.refl _
  | goto l=>simp only [aexec] at hl; cases hl; exact Keeps.refl _
  | ret=>simp only [aexec] at hl; cases hl; exact Keeps.refl _
  | refuse s=>simp [aexec] at hl
  | region id ops draw=>
   simp only [aexec] at hl;split at hl
   ·split at hl
    ·rename_i hd; cases hl; exact zhD hc _ _ _ _ _ _ _ hd
    ·cases hl
   ·exact ziu hc _ _ _ _ _ _ hl
  | seq a b=>
   simp only [aexec] at hl;split at hl
   ·rename_i h1; exact (ih _ _ _ _ _ _ h1).trans (ih _ _ _ _ _ _ hl)
   ·exact ih _ _ _ _ _ _ hl
  | cond c a b=>
   simp only [aexec] at hl;split at hl
   ·exact ih _ _ _ _ _ _ hl
   ·cases hl
  | block id c=>
   simp only [aexec] at hl;split at hl
   ·rename_i h1;split at hl<;>cases hl<;>exact ih _ _ _ _ _ _ h1
   ·exact ih _ _ _ _ _ _ hl
  | loop c=>
   simp only [aexec] at hl;split at hl
   ·rename_i h1; exact (ih _ _ _ _ _ _ h1).trans (ih _ _ _ _ _ _ hl)
   ·exact ih _ _ _ _ _ _ hl
  | scope c=>
   simp only [aexec] at hl;split at hl
   ·cases hl
   ·exact ih _ _ _ _ _ _ hl
  | rangeFunc f params assign body=>
   simp only [aexec] at hl;split at hl
   ·rename_i h1;have k1:=(Keeps.push h _).trans (hc _ _ _ _ _ h1);split at hl
    case h_2=>cases hl
    split at hl
    ·cases hl
    split at hl;all_goals first | (cases hl; done) | (cases hl; exact k1.trans (Keeps.set ..))
   ·rename_i h1; cases hl; exact (Keeps.push h _).trans (hc _ _ _ _ _ h1)
   ·cases hl
end Go.Ai
/- An abstract interpreter for the model's code: an operation depends on the blocks of its footprint alone. -/
namespace Go.Ai
open Option renaming bind->Zb,bind_some->Zs
def zD (W:List Nat) (h1 h1' h2 h2':za):Prop:=
 h2'.next=h1'.next/\((h1'.next=h1.next)\/h1'.next=h1.next+1) /\
 ∀ b,(h1'.get b=h1.get b/\h2'.get b=h2.get b/\(b≠h1.next\/h1'.next=h1.next))\/(h2'.get b=h1'.get b/\(b∈W\/(b=h1.next/\h1'.next=h1.next+1)))
section
variable {W:List Nat} {h1 h2:za} (hn:h2.next=h1.next)
include hn
theorem zD.refl:zD W h1 h1 h2 h2:=⟨hn,.inl rfl,λ_=>.inl ⟨rfl,rfl,.inr rfl⟩⟩
theorem zD.push (x:zfN):zD W h1 (h1.push x) h2 (h2.push x):=by
 refine ⟨by simp [za.next_push,hn],.inr (by simp [za.next_push]),λb=>?_⟩;rw [za.get_push,za.get_push,hn];by_cases e:b=h1.next
 . rw [if_pos e,if_pos e]; exact .inr ⟨rfl,.inr ⟨e,rfl⟩⟩
 . rw [if_neg e,if_neg e]; exact .inl ⟨rfl,rfl,.inl e⟩
theorem zD.set (b:Nat) (x:zfN) (hb:b∈W):zD W h1 (h1.set b x) h2 (h2.set b x):=by
 refine ⟨by simp [za.next_set,hn],.inl rfl,λb'=>?_⟩;rw [za.get_set,za.get_set];by_cases e:b'=b
 . rw [if_pos e,if_pos e]; exact .inr ⟨rfl,.inl (e▸hb)⟩
 . rw [if_neg e,if_neg e]; exact .inl ⟨rfl,rfl,.inr rfl⟩
theorem zD.move (b:Nat) (x:zfN) (hb:b∈W):zD W h1 ((h1.set b .dead).push x) h2 ((h2.set b .dead).push x):=by
 refine ⟨by simp [za.next_push,za.next_set,hn],.inr (by simp [za.next_push,za.next_set]),λb'=>?_⟩;rw [za.get_push,za.get_push,za.get_set,za.get_set,za.next_set,za.next_set,hn];by_cases e:b'=h1.next
 . rw [if_pos e,if_pos e]; exact .inr ⟨rfl,.inr ⟨e,rfl⟩⟩
 . rw [if_neg e,if_neg e];by_cases e2:b'=b
   . rw [if_pos e2,if_pos e2]; exact .inr ⟨rfl,.inl (e2▸hb)⟩
   . rw [if_neg e2,if_neg e2]; exact .inl ⟨rfl,rfl,.inl e⟩
end
section
variable {T:Tab} {h1 h2:za}
theorem znO {t:TypeId} {a:ze} (hag:∀ b∈zL a,h2.get b=h1.get b):aload T t h2 a=aload T t h1 a:=by
 unfold aload;cases a<;>try rfl
 rename_i b off;simp only [hag b (by simp [zL])]
theorem zlz {t:TypeId} {x ix:ze} {ok:Bool} (hag:∀ b∈zL x,h2.get b=h1.get b):alookup T t x ix ok h2=alookup T t x ix ok h1:=by
 unfold alookup;cases x<;>try rfl
 rename_i r;simp only [hag r (by simp [zL])]
theorem zkZ {es n:Nat} {x:ze} (hag:∀ b∈zL x,h2.get b=h1.get b):arow es n x h2=arow es n x h1:=by
 unfold arow;cases x<;>try rfl
 rename_i b off len es' cap;simp only [hag b (by simp [zL])]
theorem zpv {t:TypeId} {x:ze} (hag:∀ b∈znE x,h2.get b=h1.get b):alen T t x h2=alen T t x h1:=by
 unfold alen;cases x
 case map r=>
  have hr:=hag r (by simp [znE]);cases T.und t with
  | none=>rfl
  | some d=>cases d<;>first | rfl | simp only [hr]
 all_goals (cases T.und t with
  | none=>rfl
  | some d=>cases d<;>rfl)
theorem zmG {t:TypeId} {a v:ze} {h1':za} (hn:h2.next=h1.next) (hag:∀ b∈zL a,h2.get b=h1.get b) (hl:astore T t h1 a v=some h1') :
 ∃ h2',astore T t h2 a v=some h2'/\zD (zL a) h1 h1' h2 h2':=by
 unfold astore at hl ⊢;split at hl
 case h_2=>cases hl
 rename_i b off;simp only [hag b (by simp [zL])];split at hl
 case h_2=>cases hl
 rename_i cells hg;split at hl
 case h_2=>cases hl
 rename_i n hsz;split at hl
 case isFalse=>cases hl
 rename_i hc;cases hl;rw [if_pos hc];exact ⟨_,rfl,zD.set hn b _ (by simp [zL])⟩
theorem zgI {t:TypeId} {m k v:ze} {h1':za} (hn:h2.next=h1.next) (hag:∀ b∈zL m,h2.get b=h1.get b) (hl:zbk T t m k v h1=some h1') :
 ∃ h2',zbk T t m k v h2=some h2'/\zD (zL m) h1 h1' h2 h2':=by
 unfold zbk at hl ⊢;split at hl
 case h_2=>cases hl
 rename_i key elem r hu;simp only [hag r (by simp [zL])];split at hl
 case isFalse=>cases hl
 rename_i hk;simp only [hk,if_true];split at hl
 case h_2=>cases hl
 rename_i es hg;split at hl
 . rename_i i u hf;cases hl;exact ⟨_,by simp [hf],zD.set hn r _ (by simp [zL])⟩
 . rename_i hf;cases hl;exact ⟨_,by simp [hf],zD.set hn r _ (by simp [zL])⟩
 . cases hl
theorem zht {elem:TypeId} {len n:Nat} {cap:Option Nat} {parts:List (Nat×ze)} {v:ze} {h1':za} (hn:h2.next=h1.next) (hl:zcK T elem len cap n h1 parts=some (v,h1')) :
 ∃ h2',zcK T elem len cap n h2 parts=some (v,h2')/\zD [] h1 h1' h2 h2':=by
 unfold zcK at hl ⊢;rw [hn];split at hl
 case h_2=>cases hl
 split at hl
 . cases hl
 rename_i hs;split at hl
 case h_2=>cases hl
 split at hl
 case isFalse=>cases hl
 rename_i hz;split at hl
 case h_2=>cases hl
 cases hl;exact ⟨_,by simp only [hs,hz,if_false,if_true],zD.push hn _⟩
theorem znP {ts:Array TypeId} {d s v:ze} {h1':za} (hn:h2.next=h1.next) (hd:∀ b∈zL d,h2.get b=h1.get b) (hs:∀ b∈zL s,h2.get b=h1.get b) (hl:acopy T ts d s h1=some (v,h1')) :
 ∃ h2',acopy T ts d s h2=some (v,h2')/\zD (zL d) h1 h1' h2 h2':=by
 unfold acopy at hl ⊢;split at hl
 case h_2=>cases hl
 split at hl
 case h_2=>cases hl
 split at hl
 case h_2=>cases hl
 simp only at hl ⊢;split at hl
 . cases hl
 rename_i hes;rw [if_neg hes];rw [zkZ hs];split at hl
 case h_2=>cases hl
 split at hl
 . cases hl;exact ⟨_,rfl,zD.refl hn⟩
 . rename_i b off len es' cap _;rw [hd b (by simp [zL])];split at hl
   case h_2=>cases hl
   split at hl
   case isFalse=>cases hl
   rename_i hc;cases hl;rw [if_pos hc];exact ⟨_,rfl,zD.set hn b _ (by simp [zL])⟩
 . cases hl
theorem zmH {st xt:TypeId} {s x v:ze} {h1':za} (hn:h2.next=h1.next) (hl:azeros T st xt s x h1=some (v,h1')) :
 ∃ h2',azeros T st xt s x h2=some (v,h2')/\zD (zL s) h1 h1' h2 h2':=by
 unfold azeros at hl ⊢;split at hl
 case h_2=>cases hl
 split at hl
 case h_2=>cases hl
 split at hl
 case h_2=>cases hl
 split at hl
 . cases hl
 rename_i he;split at hl
 case isFalse=>cases hl
 rename_i hc;cases hl;simp only [if_neg he,if_pos hc,hn];exact ⟨_,rfl,zD.push hn _⟩
theorem zlA {ts:Array TypeId} {s x v:ze} {h1':za} (hn:h2.next=h1.next) (hs:∀ b∈zL s,h2.get b=h1.get b) (hx:∀ b∈zL x,h2.get b=h1.get b) (hl:aappend T ts s x h1=some (v,h1')) :
 ∃ h2',aappend T ts s x h2=some (v,h2')/\zD (zL s) h1 h1' h2 h2':=by
 unfold aappend at hl ⊢;split at hl
 case h_2=>cases hl
 split at hl
 . rename_i hst;rw [if_pos hst];exact zmH hn hl
 rename_i hst;rw [if_neg hst];split at hl
 case h_2=>cases hl
 split at hl
 case h_2=>cases hl
 simp only at hl ⊢;split at hl
 . cases hl
 split at hl
 . cases hl
 rename_i hes;rw [if_neg hes,zkZ hx];split at hl
 case h_2=>cases hl
 split at hl
 . split at hl
   . rename_i h0;cases hl;rw [if_pos h0];exact ⟨_,rfl,zD.refl hn⟩
   . rename_i h0;rw [if_neg h0];split at hl
     case isFalse=>cases hl
     rename_i hc;cases hl;rw [if_pos hc,hn];exact ⟨_,rfl,zD.push hn _⟩
 . rename_i b off len es' cap;rw [hs b (by simp [zL])];split at hl
   case isFalse=>cases hl
   rename_i hc;rw [if_pos hc];split at hl
   case h_2=>cases hl
   split at hl
   . split at hl
     . rename_i hroom;split at hl
       case isFalse=>cases hl
       rename_i hc2;cases hl;simp only [hroom,hc2,if_true,and_self];exact ⟨_,rfl,zD.set hn b _ (by simp [zL])⟩
     . rename_i hroom;split at hl
       case isFalse=>cases hl
       rename_i hc2;cases hl;simp only [hroom,hc2,if_true,if_false,hn];exact ⟨_,rfl,zD.push hn _⟩
   . split at hl
     case isFalse=>cases hl
     rename_i hc2;cases hl;simp only [hc2,if_true,and_self,hn];exact ⟨_,rfl,zD.move hn b _ (by simp [zL])⟩
 . cases hl
theorem zD.mono {W W':List Nat} {a b c d:za} (h:zD W a b c d) (hw:∀ x∈W,x∈W'):zD W' a b c d:=
 ⟨h.1,h.2.1,λx=>by
  rcases h.2.2 x with q | ⟨q1,q2 | q2⟩
  ·exact .inl q
  ·exact .inr ⟨q1,.inl (hw x q2)⟩
  ·exact .inr ⟨q1,.inr q2⟩⟩
theorem zmI {ev:Operand->ze} {o:Oper} {v:ze} {h1':za} (hl:aop T ev h1 o.op=some (.val v h1')) (hn:h2.next=h1.next) (hag:∀ b,b∈(foot ev o).rd\/b∈(foot ev o).wr->h2.get b=h1.get b) :
 ∃ h2',aop T ev h2 o.op=some (.val v h2')/\zD (foot ev o).wr h1 h1' h2 h2':=by
 unfold foot at hag ⊢;cases ho:o.op<;>rw [ho] at hl<;>simp only [ho] at hag<;>simp only [aop] at hl ⊢<;>(try (cases hl; done))
 case move x=>cases hl; exact ⟨h2,rfl,zD.refl hn⟩
 case assign x=>cases hl; exact ⟨h2,rfl,zD.refl hn⟩
 case pick c a b=>
  unfold zhU at hl ⊢;split at hl<;>cases hl;exact ⟨h2,rfl,zD.refl hn⟩
 case alloc elem=>
  unfold zfW at hl ⊢;split at hl<;>cases hl;rw [hn];exact ⟨_,rfl,zD.push hn _⟩
 case box elem x=>
  unfold zjB at hl ⊢;split at hl<;>cases hl;rename_i hne;refine ⟨h2.push (.arr (ev x).cells false), ?_,zD.push hn _⟩;rw [hn]
 case build t parts=>
  obtain ⟨hl2,rfl⟩:=zC hl;exact ⟨h2,by rw [hl2]; rfl,zD.refl hn⟩
 case buildSlice t len parts=>
  have hl2:=zbl hl;unfold zdM at hl2 ⊢;split at hl2
  case h_2=>cases hl2
  split at hl2
  . cases hl2
  rename_i hb;obtain ⟨h2',q1,q2⟩:=zht hn hl2;rw [if_neg hb,q1];exact ⟨h2',rfl,q2⟩
 case load t a=>
  obtain ⟨hl2,rfl⟩:=zC hl;rw [znO (λb hb=>hag b (.inl hb)),hl2];exact ⟨h2,rfl,zD.refl hn⟩
 case store t a x=>
  obtain ⟨hl2,rfl⟩:=zcd hl;obtain ⟨h2',q1,q2⟩:=zmG hn (λb hb=>hag b (.inr hb)) hl2;rw [q1];exact ⟨h2',rfl,q2⟩
 case nilCheck x=>
  unfold zdj at hl ⊢;split at hl<;>cases hl<;>exact ⟨h2,rfl,zD.refl hn⟩
 case binOp op t x y yt=>
  obtain ⟨hl2,rfl⟩:=zC hl;exact ⟨h2,by rw [hl2]; rfl,zD.refl hn⟩
 case unOp op t x=>
  obtain ⟨hl2,rfl⟩:=zC hl;exact ⟨h2,by rw [hl2]; rfl,zD.refl hn⟩
 case convert src dst x=>
  obtain ⟨hl2,rfl⟩:=zC hl;exact ⟨h2,by rw [hl2]; rfl,zD.refl hn⟩
 case makeInterface t x=>
  unfold zcq at hl ⊢;split at hl<;>cases hl;exact ⟨h2,rfl,zD.refl hn⟩
 case makeFunc fn first captured=>
  unfold zdk at hl ⊢;split at hl<;>cases hl;exact ⟨h2,rfl,zD.refl hn⟩
 case makeMap t r=>
  unfold zeH at hl ⊢;split at hl<;>cases hl;rw [hn];exact ⟨_,rfl,zD.push hn _⟩
 case makeSlice t l c=>
  have hl2:=zbl hl;unfold zep at hl2 ⊢;split at hl2
  case h_2=>cases hl2
  split at hl2
  case h_2=>cases hl2
  split at hl2
  case isFalse=>cases hl2
  rename_i hb;obtain ⟨h2',q1,q2⟩:=zht hn hl2;rw [if_pos hb,q1];exact ⟨h2',rfl,q2⟩
 case slice t x lo hi mx=>
  obtain ⟨hl2,rfl⟩:=zC hl;exact ⟨h2,by rw [hl2]; rfl,zD.refl hn⟩
 case fieldAddr s x f=>
  obtain ⟨hl2,rfl⟩:=zC hl;exact ⟨h2,by rw [hl2]; rfl,zD.refl hn⟩
 case field t x f=>
  obtain ⟨hl2,rfl⟩:=zC hl;exact ⟨h2,by rw [hl2]; rfl,zD.refl hn⟩
 case indexAddr t x ix=>
  obtain ⟨hl2,rfl⟩:=zC hl;exact ⟨h2,by rw [hl2]; rfl,zD.refl hn⟩
 case index t x ix=>
  obtain ⟨hl2,rfl⟩:=zC hl;exact ⟨h2,by rw [hl2]; rfl,zD.refl hn⟩
 case lookup t x ix b=>
  obtain ⟨hl2,rfl⟩:=zC hl;rw [zlz (λb hb=>hag b (.inl hb)),hl2];exact ⟨h2,rfl,zD.refl hn⟩
 case mapUpdate t m k x=>
  obtain ⟨hl2,rfl⟩:=zcd hl;obtain ⟨h2',q1,q2⟩:=zgI hn (λb hb=>hag b (.inr hb)) hl2;rw [q1];exact ⟨h2',rfl,q2⟩
 case insert t m k x=>
  obtain ⟨hl2,rfl⟩:=zcd hl;obtain ⟨h2',q1,q2⟩:=zgI hn (λb hb=>hag b (.inr hb)) hl2;rw [q1];exact ⟨h2',rfl,q2⟩
 case extract t i=>
  unfold zfp at hl ⊢;split at hl
  . obtain ⟨hl2,rfl⟩:=zC hl;exact ⟨h2,by rw [hl2]; rfl,zD.refl hn⟩
  . cases hl
 case call c=>
  unfold zcD at hl ⊢;cases hc:c.callee<;>rw [hc] at hl<;>simp only [hc] at hag<;>simp only at hl ⊢<;>(try (cases hl; done));rename_i b;generalize hxs:c.args.toList.map ev=xs at hl hag ⊢;unfold abuiltin at hl ⊢;split at hl
  . split at hl
    case h_2=>cases hl
    obtain ⟨hl2,rfl⟩:=zC hl;rw [zpv (λb hb=>hag b (.inl (by simpa using hb))),hl2];exact ⟨h2,rfl,zD.refl hn⟩
  . split at hl
    case h_2=>cases hl
    obtain ⟨hl2,rfl⟩:=zC hl;rw [hl2];exact ⟨h2,rfl,zD.refl hn⟩
  . have hl2:=zbl hl;obtain ⟨h2',q1,q2⟩:=zlA hn (λb hb=>hag b (.inr (by simpa using hb))) (λb hb=>hag b (.inl (by simpa using hb))) hl2;rw [q1];exact ⟨h2',rfl,q2.mono (λx hx=>by simpa using hx)⟩
  . have hl2:=zbl hl;obtain ⟨h2',q1,q2⟩:=znP hn (λb hb=>hag b (.inr (by simpa using hb))) (λb hb=>hag b (.inl (by simpa using hb))) hl2;rw [q1];exact ⟨h2',rfl,q2.mono (λx hx=>by simpa using hx)⟩
  . obtain ⟨hl2,rfl⟩:=zC hl;exact ⟨h2,by rw [hl2]; rfl,zD.refl hn⟩
  . obtain ⟨hl2,rfl⟩:=zC hl;exact ⟨h2,by rw [hl2]; rfl,zD.refl hn⟩
  . cases hl
theorem zh0 {ev ev':Operand->ze} (ps:List (Nat×Operand)) (h:∀ x∈ps.map (·.2),ev x=ev' x):zc7 ev ps=zc7 ev' ps:=by
 unfold zc7;exact List.map_congr_left (λp hp=>by rw [h p.2 (List.mem_map.2 ⟨p,hp,rfl⟩)])
theorem ziv {ev ev':Operand->ze} (o:Option Operand) (h:∀ x∈o.toArray.toList,ev x=ev' x):o.map ev=o.map ev':=by
 cases o with
 | none=>rfl
 | some x=>simp [h x (by simp)]
theorem zqr {ev ev':Operand->ze} {op:Op} (h:∀ x∈op.operands.toList,ev x=ev' x) (h1:za):aop T ev h1 op=aop T ev' h1 op:=by
 cases op<;>simp only [aop]<;>(try rfl)
 case move x=>rw [h x (by simp [Op.operands])]
 case assign x=>rw [h x (by simp [Op.operands])]
 case pick c a b=>unfold zhU; rw [h c (by simp [Op.operands]),h a (by simp [Op.operands]),h b (by simp [Op.operands])]
 case box t x=>unfold zjB; rw [h x (by simp [Op.operands])]
 case build t ps=>rw [zh0 ps.toList (by simpa [Op.operands] using h)]
 case buildSlice t n ps=>rw [zh0 ps.toList (by simpa [Op.operands] using h)]
 case load t a=>rw [h a (by simp [Op.operands])]
 case store t a x=>rw [h a (by simp [Op.operands]),h x (by simp [Op.operands])]
 case nilCheck x=>rw [h x (by simp [Op.operands])]
 case binOp o t x y yt=>rw [h x (by simp [Op.operands]),h y (by simp [Op.operands])]
 case unOp o t x=>rw [h x (by simp [Op.operands])]
 case convert a b x=>rw [h x (by simp [Op.operands])]
 case makeInterface t x=>rw [h x (by simp [Op.operands])]
 case makeFunc fn first captured=>
  have h':∀ x,x∈first.toList\/x∈captured.toList->ev x=ev' x:=λx hx=>h x (by simpa [Op.operands] using hx);rw [show zdk ev h1 fn first.toList captured.toList=zdk ev' h1 fn first.toList captured.toList from by
   unfold zdk;rw [List.map_congr_left (λx hx=>h' x (.inl hx)),List.map_congr_left (λx hx=>h' x (.inr hx))]]
 case makeMap t r=>
  unfold zeH;cases r with
  | none=>rfl
  | some x=>simp only [h x (by simp [Op.operands])]
 case makeSlice t l c=>rw [h l (by simp [Op.operands]),h c (by simp [Op.operands])]
 case slice t x lo hi mx=>
  have h':∀ y,y=x\/y∈lo.toArray.toList\/y∈hi.toArray.toList\/y∈mx.toArray.toList->ev y=ev' y:=λy hy=>h y (by
   simp only [Op.operands,Array.toList_append,List.mem_append];rcases hy with rfl | hy | hy | hy
   . exact .inl (.inl (.inl (by simp)))
   . exact .inl (.inl (.inr hy))
   . exact .inl (.inr hy)
   . exact .inr hy)
  rw [h' x (.inl rfl),ziv lo (λy hy=>h' y (.inr (.inl hy))),ziv hi (λy hy=>h' y (.inr (.inr (.inl hy)))),ziv mx (λy hy=>h' y (.inr (.inr (.inr hy))))]
 case fieldAddr s x f=>rw [h x (by simp [Op.operands])]
 case field t x f=>rw [h x (by simp [Op.operands])]
 case indexAddr t x ix=>rw [h x (by simp [Op.operands]),h ix (by simp [Op.operands])]
 case index t x ix=>rw [h x (by simp [Op.operands]),h ix (by simp [Op.operands])]
 case lookup t x ix b=>rw [h x (by simp [Op.operands]),h ix (by simp [Op.operands])]
 case mapUpdate t m k x=>rw [h m (by simp [Op.operands]),h k (by simp [Op.operands]),h x (by simp [Op.operands])]
 case insert t m k x=>rw [h m (by simp [Op.operands]),h k (by simp [Op.operands]),h x (by simp [Op.operands])]
 case extract t i=>rw [h t (by simp [Op.operands])]
 case call c=>
  have h':∀ x,x∈c.operands.toList->ev x=ev' x:=λx hx=>h x (by simpa [Op.operands] using hx);have ha:c.args.toList.map ev=c.args.toList.map ev':=List.map_congr_left (λx hx=>h' x (by simp only [Call.operands,Array.toList_append,List.mem_append]; exact .inr hx));unfold zcD;cases hc:c.callee with
  | builtin b=>simp only [ha]
  | value f=>simp only [ha,h' f (by simp [Call.operands,hc])]
  | invoke r m=>rfl
end
end Go.Ai
/- An abstract interpreter for the model's code: the orders that a region may draw. -/
namespace Go.Ai
open Option renaming bind->Zb,bind_some->Zs
def preds (ops:Array Oper) (S:Nat->Prop) (i:Nat):Prop:=∀ o,ops[i]?=some o->∀ e∈o.after.toList,Region.binds .any e=true->S e.on
inductive Sched (ops:Array Oper):(Nat->Prop)->List Nat->Prop where
 | nil (S:Nat->Prop) (h:∀ i,i<ops.size->S i):Sched ops S []
 | cons (S:Nat->Prop) (i:Nat) (l:List Nat) (hi:i<ops.size) (hn:¬ S i) (hp:preds ops S i) (h:Sched ops (λx=>S x\/x=i) l):Sched ops S (i::l)
theorem Sched.congr {ops:Array Oper} {S S':Nat->Prop} {l:List Nat} (h:Sched ops S l) (e:∀ x,S x↔S' x):Sched ops S' l:=by
 have:S=S':=funext λx=>propext (e x);exact this▸h
theorem ziY:∀ (os:List Oper) (k:Nat),zhB os k=true->∀ (i:Nat) o,os[i]?=some o->∀ e∈o.after.toList,Region.binds .any e=true->e.on<k+i
 | [],k,_,i,o,ho,e,_,_=>by simp at ho
 | x::xs,k,h,i,o,ho,e,he,hb=>by
  simp only [zhB,Bool.and_eq_true] at h;cases i with
  | zero=>
   simp at ho; subst ho;have:=Array.all_eq_true_iff_forall_mem.1 h.1 e (by simpa using he);rw [hb] at this;simpa using this
  | succ i=>
   have:=ziY xs (k+1) h.2 i o (by simpa using ho) e he hb;omega
theorem zsy {ops:Array Oper} (hedge:zhB ops.toList 0=true):∀ (fuel t:Nat) (listed:Array Bool),listed.size=ops.size->listed.toList.count false<=fuel ->
    Sched ops (λi=>listed.getD i false=true) (Region.linearise.go .any ops fuel t listed []):=by
  intro fuel;induction fuel with
  | zero=>
    intro t listed hsz hc;simp only [Region.linearise.go,List.reverse_nil];refine .nil _ (λi hi=>?_);have hlt:i<listed.size:=by omega
    have hno:false∉listed.toList:=by
      intro hm;have:=List.count_pos_iff.2 hm;omega
    have hv:listed[i]=true:=by
      cases hb:listed[i] with
      | true=>rfl
      | false=>exact absurd (by rw [← hb]; exact Array.getElem_mem_toList hlt) hno
    simp [Array.getD,hlt,hv]
  | succ fuel ih=>
    intro t listed hsz hc;simp only [Region.linearise.go];change Sched ops _ (match (Region.ready .any ops listed)[t%(Region.ready .any ops listed).length]? with
      | some i=>Region.linearise.go .any ops fuel (t/(Region.ready .any ops listed).length) (listed.setIfInBounds i true) [i]
      | none=>[].reverse)
    cases hi:(Region.ready .any ops listed)[t%(Region.ready .any ops listed).length]? with
    | none=>
      have hnil:Region.ready .any ops listed=[]:=by
        cases hr:Region.ready .any ops listed with
        | nil=>rfl
        | cons x xs=>
          rw [hr] at hi;have hlt:t%(x::xs).length<(x::xs).length:=Nat.mod_lt _ (by simp);simp at hi;simp at hlt;omega
      simp only [List.reverse_nil];refine .nil _ ?_;intro i;induction i using Nat.strongRecOn with
      | _ i ihi=>
        intro hi';have hlt:i<listed.size:=by omega
        cases hb:listed.getD i false with
        | true=>rfl
        | false=>
          exfalso;have hmem:i∈Region.ready .any ops listed:=by
            rw [mem_ready];refine ⟨?_,ops[i],Array.getElem?_eq_getElem hi',λe he heb=>?_⟩
            · simp [Array.getD,hlt] at hb ⊢; exact hb
            · have hlt2:=ziY ops.toList 0 hedge i ops[i] (by simp) e (by simpa using he) heb;exact ihi e.on (by omega) (by omega)
          rw [hnil] at hmem;cases hmem
    | some i=>
      have hmem:=List.mem_of_getElem? hi;rw [mem_ready] at hmem;obtain ⟨h0,o,ho,hall⟩:=hmem;have hlt:i<ops.size:=(Array.getElem?_eq_some_iff.1 ho).1;have hlt2:i<listed.size:=by omega
      simp only [];rw [linearise_go_acc,List.reverse_singleton,List.singleton_append];have hfalse:listed[i]=false:=by simpa [Array.getD,hlt2] using h0
      refine .cons _ i _ hlt (by simp [Array.getD,hlt2,hfalse]) ?_ ?_
      · intro o' ho' e he hb;rw [ho] at ho'; cases ho';exact hall e (by simpa using he) hb
      · refine (ih (t/(Region.ready .any ops listed).length) (listed.setIfInBounds i true) (by simpa using hsz) ?_).congr ?_
        · have hcs:(listed.setIfInBounds i true).toList.count false=listed.toList.count false-1:=by
            rw [Array.toList_setIfInBounds,List.count_set (by simpa using hlt2)];simp [hfalse]
          omega
        · intro x;by_cases hx:x=i
          · subst hx; simp [Array.getD,hlt2]
          · rw [getD_set_ne false (λq=>hx q.symm)]; simp [hx]
theorem zkC {ops:Array Oper} (hedge:zhB ops.toList 0=true) (t:Nat):Sched ops (λ_=>False) (Region.schedule true ops t):=by
 have h:=zsy hedge ops.size t (Array.replicate ops.size false) (by simp) (by
  rw [Array.toList_replicate,List.count_replicate]; simp)
 refine Sched.congr (S:=_) (by simpa [Region.schedule,Region.linearise] using h) (λx=>?_);constructor
 . intro hx;have hx':(Array.replicate ops.size false)[x]?.getD false=true:=hx;rw [Array.getElem?_replicate] at hx';split at hx'<;>simp at hx'
 . exact False.elim
def Closed (ops:Array Oper) (S:Nat->Prop):Prop:=∀ i,S i->preds ops S i
theorem zk0 {ops:Array Oper} {S:Nat->Prop} (hc:Closed ops S):∀ (k:Nat) (todo seen:List Nat),(∀ x∈seen,S x)->(∀ x∈todo,preds ops S x)->∀ x∈before ops.toList k todo seen,S x
 | 0,todo,seen,hs,_,x,hx=>hs x hx
 | k+1,[],seen,hs,_,x,hx=>hs x hx
 | k+1,j::todo,seen,hs,ht,x,hx=>by
  have hpre:=ht j (List.mem_cons_self ..);simp only [before] at hx;have hnews:∀ y∈((match ops.toList[j]? with
   | some o=>(o.after.toList.filter (Region.binds .any)).map (λ(e:Edge)=>e.on)
   | none=>[]).filter λi=>!seen.contains i),S y:=by
   intro y hy;have hy:=(List.mem_filter.1 hy).1;cases ho:ops.toList[j]? with
   | none=>rw [ho] at hy; cases hy
   | some o=>
    rw [ho] at hy;obtain ⟨e,he,rfl⟩:=List.mem_map.1 hy;obtain ⟨he1,he2⟩:=List.mem_filter.1 he;exact hpre o (by simpa using ho) e he1 he2
  refine zk0 hc k _ _ ?_ ?_ x hx
  ·intro y hy;rcases List.mem_append.1 hy with hy | hy
   ·exact hnews y hy
   ·exact hs y hy
  ·intro y hy;rcases List.mem_append.1 hy with hy | hy
   ·exact hc y (hnews y hy)
   ·exact ht y (List.mem_cons_of_mem _ hy)
theorem zd4 {ops:Array Oper} {S:Nat->Prop} (hc:Closed ops S) {i j:Nat} (hp:preds ops S i) (hj:j∈zb2 ops.toList i):S j:=
 zk0 hc _ [i] [] (λx hx=>by cases hx) (λx hx=>by simp at hx; subst hx; exact hp) j hj
theorem zfQ (all:List Oper):∀ (os:List Oper) (k:Nat),zir all os k=true->∀ (i:Nat) o,os[i]?=some o->∀ (j:Nat) a,j<k+i->all[j]?=some a->zfj all a o=true\/j∈zb2 all (k+i)
 | [],k,_,i,o,ho,_,_,_,_=>by simp at ho
 | x::xs,k,h,i,o,ho,j,a,hj,ha=>by
  simp only [zir,Bool.and_eq_true] at h;cases i with
  | zero=>
   simp at ho; subst ho;have h1:=h.1;split at h1
   ·rename_i hq;have:=List.all_eq_true.1 hq j (List.mem_range.2 (by omega));rw [ha] at this;exact .inl this
   ·have:=List.all_eq_true.1 h1 j (List.mem_range.2 (by omega));rw [ha] at this;simp only [Bool.or_eq_true] at this;rcases this with q | q
    ·exact .inl q
    ·right; simpa using q
  | succ i=>
   have:=zfQ all xs (k+1) h.2 i o (by simpa using ho) j a (by omega) ha;rw [show k+(i+1)=k+1+i from by omega];exact this
end Go.Ai
/- An abstract interpreter for the model's code: the run of a drawn region in the order of the text,laid out step by step. -/
namespace Go.Ai
open Option renaming bind->Zb,bind_some->Zs
section
variable {T:Tab} {call:Caller}
structure znQ (T:Tab) (call:Caller) (os:List Oper) (st:Nat->zi×za) (vl:Nat->ze) (ft:Nat->Foot) (ex:Nat->Bool) (i:Nat) (done:List (Nat×Foot)):Prop where
 step:∀ k o,i<=k->os[k]?=some o ->
  (ex k=false/\awanted os (st k).1 o.guard=some false/\vl k=unit/\st (k+1)=(putDst (st k).1 o.dst unit,(st k).2)) \/
  (ex k=true/\awanted os (st k).1 o.guard=some true/\∃ h',astep T call (st k).1.op o.op { (st k).2 with wm:=(st k).2.next }=some (.ret (vl k),h') /\
   ft k=zfO (foot (st k).1.op o) (st k).2 h'/\st (k+1)=(putDst (st k).1 o.dst (vl k),{ h' with wm:=min (st k).2.wm h'.wm }))
 apart:∀ j k,i<=j->j<k->k<os.length->ex k=true->ex j=true->(ft j).apart (ft k)=true\/j∈zb2 os k
 apartD:∀ p∈done,∀ k,i<=k->k<os.length->ex k=true->p.2.apart (ft k)=true\/p.1∈zb2 os k
theorem zmJ {os:List Oper} {j:Nat} {f:Foot} {done:List (Nat×Foot)} (h:zcc os j f done=true):∀ p∈done,p.2.apart f=true\/p.1∈zb2 os j:=by
 intro p hp;unfold zcc at h;split at h
 . rename_i hq;exact .inl (List.all_eq_true.1 hq p hp)
 . have:=List.all_eq_true.1 h p hp;simp only [Bool.or_eq_true] at this;rcases this with q | q
   . exact .inl q
   . right; simpa using q
theorem zhE {os:List Oper}:∀ (rest:List Oper) (i:Nat) (done:List (Nat×Foot)) (fr:zi) (h:za) (fr':zi) (h':za),os.drop i=rest->adraw T call os rest i done fr h=some (fr',h') ->
    ∃ st vl ft ex,st i=(fr,h)/\znQ T call os st vl ft ex i done/\st (i+rest.length)=(fr',h')
  | [],i,done,fr,h,fr',h',hd,hl=>by
    simp only [adraw] at hl;cases hl;have hlen:os.length<=i:=by
      have:=congrArg List.length hd;simp at this; omega
    refine ⟨λ_=>(fr,h),λ_=>unit,λ_=>⟨[],false,[],false⟩,λ_=>false,rfl,⟨?_, ?_, ?_⟩,rfl⟩
    · intro k o hk ho;have:=(List.getElem?_eq_some_iff.1 ho).1;omega
    · intro j k _ _ _ he; cases he
    · intro p _ k _ _ he; cases he
  | o::rest,i,done,fr,h,fr',h',hd,hl=>by
    have hoi:os[i]?=some o:=by
      have:=congrArg (λl=>l[0]?) hd;simpa [List.getElem?_drop] using this
    have hd2:os.drop (i+1)=rest:=by
      have:=congrArg (λl=>l.drop 1) hd;simpa [List.drop_drop] using this
    simp only [adraw] at hl;split at hl
    · rename_i hw;split at hl
      · rename_i v h1 hs;cases hf:zcc os i (zfO (foot fr.op o) h h1) done with
        | false=>rw [hf] at hl; cases hl
        | true=>
          rw [hf] at hl;simp only [cond_true] at hl;obtain ⟨st,vl,ft,ex,s1,s2,s3⟩:=zhE rest (i+1) _ _ _ fr' h' hd2 hl;refine ⟨λk=>if k=i then (fr,h) else st k,λk=>if k=i then v else vl k,λk=>if k=i then zfO (foot fr.op o) h h1 else ft k,λk=>if k=i then true else ex k,by simp,⟨?_, ?_, ?_⟩, ?_⟩
          · intro k o' hk ho';by_cases e:k=i
            · subst e;rw [hoi] at ho'; cases ho';right;simp only [if_true,if_neg (show ¬ (k+1=k) by omega)];exact ⟨trivial,hw,h1,hs,rfl,s1⟩
            · simp only [if_neg e,if_neg (show ¬ (k+1=i) by omega)];exact s2.step k o' (by omega) ho'
          · intro j k hj hjk hk hek hej;simp only [if_neg (show ¬ k=i by omega)] at hek ⊢;by_cases e:j=i
            · subst e;simp only [if_true];exact s2.apartD (j,_) (List.mem_cons_self ..) k (by omega) hk hek
            · simp only [if_neg e] at hej ⊢;exact s2.apart j k (by omega) hjk hk hek hej
          · intro p hp k hk hkl hek;by_cases e:k=i
            · subst e;simp only [if_true];exact zmJ hf p hp
            · simp only [if_neg e] at hek ⊢;exact s2.apartD p (List.mem_cons_of_mem _ hp) k (by omega) hkl hek
          · show (if i+(o::rest).length=i then (fr,h) else st (i+(o::rest).length))=_;rw [if_neg (by simp),show i+(o::rest).length=i+1+rest.length from by simp; omega];exact s3
      · cases hl
    · rename_i hw;obtain ⟨st,vl,ft,ex,s1,s2,s3⟩:=zhE rest (i+1) _ _ _ fr' h' hd2 hl;refine ⟨λk=>if k=i then (fr,h) else st k,λk=>if k=i then unit else vl k,ft,λk=>if k=i then false else ex k,by simp,⟨?_, ?_, ?_⟩, ?_⟩
      · intro k o' hk ho';by_cases e:k=i
        · subst e;rw [hoi] at ho'; cases ho';left;simp only [if_true,if_neg (show ¬ (k+1=k) by omega)];exact ⟨trivial,hw,trivial,s1⟩
        · simp only [if_neg e,if_neg (show ¬ (k+1=i) by omega)];exact s2.step k o' (by omega) ho'
      · intro j k hj hjk hk hek hej;simp only [if_neg (show ¬ k=i by omega)] at hek;by_cases e:j=i
        · subst e; simp at hej
        · simp only [if_neg e] at hej;exact s2.apart j k (by omega) hjk hk hek hej
      · intro p hp k hk hkl hek;by_cases e:k=i
        · subst e; simp at hek
        · simp only [if_neg e] at hek;exact s2.apartD p hp k (by omega) hkl hek
      · show (if i+(o::rest).length=i then (fr,h) else st (i+(o::rest).length))=_;rw [if_neg (by simp),show i+(o::rest).length=i+1+rest.length from by simp; omega];exact s3
    · cases hl
theorem zlB {ev:Operand->ze} {o:Oper} {h:za} {v:ze} {h':za} (hl:aop T ev h o.op=some (.val v h')):(foot ev o).rall=false/\(foot ev o).wall=false:=by
 unfold foot;cases ho:o.op<;>try exact ⟨rfl,rfl⟩
 rename_i c;rw [ho] at hl;simp only [aop,zcD] at hl;cases hc:c.callee with
 | builtin b=>simp only [hc]; cases b<;>simp
 | value f=>rw [hc] at hl; cases hl
 | invoke r m=>rw [hc] at hl; cases hl
theorem zh1 {ev:Operand->ze} {o:Oper} {h:za} {f:ze} {as:List ze} (hl:aop T ev h o.op=some (.call f as)):foot ev o=⟨[],true,[],false⟩:=by
 obtain ⟨c,fo,h1,h2,_⟩:=zcE hl;unfold foot;rw [h1];simp only [h2]
end
end Go.Ai
/- An abstract interpreter for the model's code: a region that draws its order. -/
namespace Go.Ai
open Option renaming bind->Zb,bind_some->Zs
open Classical
theorem H0.congr {base:Nat} {ρ:Emb} {h h2:za} {w:World} (hr:H0 base ρ h w) (e:∀ b l,ρ b=some l->h2.get b=h.get b):H0 base ρ h2 w:=by
 have ow:∀ b l,ρ b=some l->(Owns h2 b↔Owns h b):=λb l hb=>by unfold Owns; rw [e b l hb]
 have al:∀ b l,ρ b=some l->(Alive h2 b↔Alive h b):=λb l hb=>by unfold Alive; rw [e b l hb]
 exact ⟨hr.clt,λb l hb=>by rw [e b l hb]; exact hr.blk b l hb,λb b' l l' hb hb' hn ho ha=>hr.inj b b' l l' hb hb' hn ((ow b l hb).1 ho) ((al b' l' hb').1 ha),hr.base⟩
structure Core (ρ:Emb) (h:za) (w:World) (ρ':Emb) (h':za) (w':World):Prop where
 ext:Ext ρ ρ'
 size:w.heap.size<=w'.heap.size
 frame:∀ k,k<w.heap.size->(∀ b l,ρ b=some l->Owns h b->l.c≠k)->w'.heap[k]?=w.heap[k]?
 own:∀ b l,ρ' b=some l->Alive h' b->(ρ b=some l/\Alive h b/\(Owns h' b->Owns h b))\/w.heap.size<=l.c\/∃ b0 l0,ρ b0=some l0/\Owns h b0/\l0.c=l.c
 os:w'.os=w.os
 tape:w'.tape=w.tape
 output:w'.output=w.output
 loops:∀ b l L,ρ b=some l->h.get b=some (.loop L)->∃ L',h'.get b=some (.loop L')/\zjF L L'
theorem Trans.core {ρ ρ':Emb} {h h':za} {w w':World} (t:Trans ρ h w ρ' h' w'):Core ρ h w ρ' h' w':=⟨t.ext,t.size,t.frame,t.own,t.os,t.tape,t.output,t.loops⟩
theorem Core.refl (ρ:Emb) (h:za) (w:World):Core ρ h w ρ h w:=(Trans.refl ρ h w).core
theorem Core.trans {ρ ρ₁ ρ₂:Emb} {h h₁ h₂:za} {w w₁ w₂:World} (a:Core ρ h w ρ₁ h₁ w₁) (b:Core ρ₁ h₁ w₁ ρ₂ h₂ w₂):Core ρ h w ρ₂ h₂ w₂:=by
 refine ⟨a.ext.trans b.ext,Nat.le_trans a.size b.size,λk hk hb=>?_,λb' l hb' ho=>?_,b.os.trans a.os,b.tape.trans a.tape,b.output.trans a.output,
  λb' l L hb hg=>let ⟨L1,h1,s1⟩:=a.loops b' l L hb hg; let ⟨L2,h2,s2⟩:=b.loops b' l L1 (a.ext _ _ hb) h1; ⟨L2,h2,s1.trans s2⟩⟩
 . rw [b.frame k (Nat.lt_of_lt_of_le hk a.size) ?_,a.frame k hk hb];intro b1 l1 hb1 ho1 e;rcases a.own b1 l1 hb1 ho1.alive with ⟨h0,_,h2⟩ | h1 | ⟨b0,l0,h0,ho0,e0⟩
   . exact hb b1 l1 h0 (h2 ho1) e
   . omega
   . exact hb b0 l0 h0 ho0 (e0.trans e)
 . rcases b.own b' l hb' ho with ⟨h1,h2,h3⟩ | h1 | ⟨b1,l1,h1,ho1,e1⟩
   . rcases a.own b' l h1 h2 with ⟨g1,g2,g3⟩ | g1 | g1
     . exact .inl ⟨g1,g2,λq=>g3 (h3 q)⟩
     . exact .inr (.inl g1)
     . exact .inr (.inr g1)
   . exact .inr (.inl (Nat.le_trans a.size h1))
   . rcases a.own b1 l1 h1 ho1.alive with ⟨g1,g2,g3⟩ | h2 | ⟨b0,l0,h0,ho0,e0⟩
     . exact .inr (.inr ⟨b1,l1,g1,g3 ho1,e1⟩)
     . exact .inr (.inl (by rw [← e1]; exact h2))
     . exact .inr (.inr ⟨b0,l0,h0,ho0,e0.trans e1⟩)
theorem Core.congr {ρ ρ':Emb} {h h' g g':za} {w w':World} (t:Core ρ h w ρ' h' w') (e:∀ b l,ρ b=some l->g.get b=h.get b) (e':∀ b l,ρ' b=some l->g'.get b=h'.get b):Core ρ g w ρ' g' w':=by
 have ow:∀ b l,ρ b=some l->(Owns g b↔Owns h b):=λb l hb=>by unfold Owns; rw [e b l hb]
 have al:∀ b l,ρ b=some l->(Alive g b↔Alive h b):=λb l hb=>by unfold Alive; rw [e b l hb]
 have ow':∀ b l,ρ' b=some l->(Owns g' b↔Owns h' b):=λb l hb=>by unfold Owns; rw [e' b l hb]
 have al':∀ b l,ρ' b=some l->(Alive g' b↔Alive h' b):=λb l hb=>by unfold Alive; rw [e' b l hb]
 refine ⟨t.ext,t.size,λk hk hb=>t.frame k hk (λb l h1 h2=>hb b l h1 ((ow b l h1).2 h2)),λb l hb ha=>?_,t.os,t.tape,t.output,λb l L hb hg=>?_⟩
 . rcases t.own b l hb ((al' b l hb).1 ha) with ⟨h1,h2,h3⟩ | h1 | ⟨b0,l0,h1,h2,h3⟩
   . exact .inl ⟨h1,(al b l h1).2 h2,λq=>(ow b l h1).2 (h3 ((ow' b l hb).1 q))⟩
   . exact .inr (.inl h1)
   . exact .inr (.inr ⟨b0,l0,h1,(ow b0 l0 h1).2 h2,h3⟩)
 . rw [e b l hb] at hg;obtain ⟨L',h1,h2⟩:=t.loops b l L hb hg;exact ⟨L',by rw [e' b l (t.ext _ _ hb)]; exact h1,h2⟩
theorem zuc (g:Nat->Option zfN) (nx:Nat):∀ B:Nat,∃ h:za,h.next=nx/\∀ b,h.get b=if b<B then g b else none
 | 0=>⟨⟨.leaf,nx,0⟩,rfl,λb=>by simp [za.get,Tr.get]⟩
 | B+1=>by
  obtain ⟨h,h1,h2⟩:=zuc g nx B;cases hg:g B with
  | none=>
   refine ⟨h,h1,λb=>?_⟩;rw [h2];by_cases e:b=B
   ·subst e; simp [hg]
   ·by_cases q:b<B
    ·rw [if_pos q,if_pos (by omega)]
    ·rw [if_neg q,if_neg (by omega)]
  | some x=>
   refine ⟨h.set B x,h1,λb=>?_⟩;rw [za.get_set,h2];by_cases e:b=B
   ·subst e; simp [hg]
   ·rw [if_neg e];by_cases q:b<B
    ·rw [if_pos q,if_pos (by omega)]
    ·rw [if_neg q,if_neg (by omega)]
section
variable (os:List Oper) (st:Nat->zi×za) (vl:Nat->ze)
def zgu (m:Nat):Option Nat:=(os[m]?).bind (λ(o:Oper)=>o.dst)
noncomputable def fcont (S:Nat->Prop):Nat->Nat->ze
 | 0,t=>(st 0).1.ev t
 | m+1,t=>if S m/\zgu os m=some t then vl m else fcont S m t
def Chg (m b:Nat):Prop:=b<(st (m+1)).2.next/\((st m).2.next<=b\/(st (m+1)).2.get b≠(st m).2.get b)
noncomputable def hcont (S:Nat->Prop):Nat->Nat->Option zfN
 | 0,b=>(st 0).2.get b
 | m+1,b=>if S m/\Chg st m b then (st (m+1)).2.get b else hcont S m b
variable {os st vl}
theorem ziw {S:Nat->Prop} {t:Nat}:∀ (i:Nat),(∀ m,m<i->(st (m+1)).1.ev t=if zgu os m=some t then vl m else (st m).1.ev t)->(∀ m,m<i->zgu os m=some t->S m)->fcont os st vl S i t=(st i).1.ev t
 | 0,_,_=>rfl
 | i+1,hs,h=>by
  simp only [fcont];rw [hs i (by omega),ziw i (λm hm=>hs m (by omega)) (λm hm=>h m (by omega))];by_cases e:zgu os i=some t
  . rw [if_pos ⟨h i (by omega) e,e⟩,if_pos e]
  . rw [if_neg (λq=>e q.2),if_neg e]
theorem zk1 {S:Nat->Prop} {t i:Nat}:∀ (N:Nat),i<=N->(∀ m,i<=m->m<N->S m->zgu os m≠some t)->fcont os st vl S N t=fcont os st vl S i t
  | 0,hi,_=>by
      have:i=0:=by omega
      subst this; rfl
  | N+1,hi,h=>by
    by_cases e:i=N+1
    · rw [e]
    · simp only [fcont];rw [if_neg (λq=>h N (by omega) (by omega) q.1 q.2)];exact zk1 N (by omega) (λm h1 h2=>h m h1 (by omega))
theorem zjR {S:Nat->Prop} {i t:Nat} (hi:¬ S i):∀ (N:Nat),(zgu os i≠some t->fcont os st vl (λx=>S x\/x=i) N t=fcont os st vl S N t) /\
    (zgu os i=some t->i<N->(∀ m,i<m->m<N->S m->zgu os m≠some t)->fcont os st vl (λx=>S x\/x=i) N t=vl i)
  | 0=>⟨λ_=>rfl,λ_ h=>by omega⟩
  | N+1=>by
    obtain ⟨h1,h2⟩:=zjR hi N;refine ⟨λhd=>?_,λhd hN hm=>?_⟩
    · simp only [fcont];rw [h1 hd];by_cases e:N=i
      · subst e;rw [if_neg (λq=>hd q.2),if_neg (λq=>hd q.2)]
      · by_cases q:S N/\zgu os N=some t
        · rw [if_pos ⟨.inl q.1,q.2⟩,if_pos q]
        · rw [if_neg (λq2=>q ⟨q2.1.resolve_right e,q2.2⟩),if_neg q]
    · simp only [fcont];by_cases e:N=i
      · subst e; rw [if_pos ⟨.inr rfl,hd⟩]
      · rw [if_neg (λq=>hm N (by omega) (by omega) (q.1.resolve_right e) q.2)];exact h2 hd (by omega) (λm a b=>hm m a (by omega))
theorem zix {S:Nat->Prop} {b:Nat}:∀ (i:Nat),(b<(st i).2.next)->(∀ m,m<i->(st m).2.next<=(st (m+1)).2.next)->(∀ m,m<i->Chg st m b->S m)->hcont st S i b=(st i).2.get b
 | 0,_,_,_=>rfl
 | i+1,hb,hmono,h=>by
  simp only [hcont];by_cases c:Chg st i b
  . rw [if_pos ⟨h i (by omega) c,c⟩]
  . rw [if_neg (λq=>c q.2)];unfold Chg at c;have c1:b<(st i).2.next:=by
     by_cases q:b<(st i).2.next
     . exact q
     . exact absurd ⟨hb,.inl (by omega)⟩ c
    have c2:(st (i+1)).2.get b=(st i).2.get b:=by
     by_cases q:(st (i+1)).2.get b=(st i).2.get b
     . exact q
     . exact absurd ⟨hb,.inr q⟩ c
    rw [zix i c1 (λm hm=>hmono m (by omega)) (λm hm=>h m (by omega)),c2]
theorem zk2 {S:Nat->Prop} {b i:Nat}:∀ (N:Nat),i<=N->(∀ m,i<=m->m<N->S m->¬ Chg st m b)->hcont st S N b=hcont st S i b
  | 0,hi,_=>by
      have:i=0:=by omega
      subst this; rfl
  | N+1,hi,h=>by
    by_cases e:i=N+1
    · rw [e]
    · simp only [hcont];rw [if_neg (λq=>h N (by omega) (by omega) q.1 q.2)];exact zk2 N (by omega) (λm h1 h2=>h m h1 (by omega))
theorem zd5 {S:Nat->Prop} {i b:Nat} (hi:¬ S i):∀ (N:Nat),(¬ Chg st i b->hcont st (λx=>S x\/x=i) N b=hcont st S N b) /\
    (Chg st i b->i<N->(∀ m,i<m->m<N->S m->¬ Chg st m b)->hcont st (λx=>S x\/x=i) N b=(st (i+1)).2.get b)
  | 0=>⟨λ_=>rfl,λ_ h=>by omega⟩
  | N+1=>by
    obtain ⟨h1,h2⟩:=zd5 hi N;refine ⟨λhd=>?_,λhd hN hm=>?_⟩
    · simp only [hcont];rw [h1 hd];by_cases e:N=i
      · subst e;rw [if_neg (λq=>hd q.2),if_neg (λq=>hd q.2)]
      · by_cases q:S N/\Chg st N b
        · rw [if_pos ⟨.inl q.1,q.2⟩,if_pos q]
        · rw [if_neg (λq2=>q ⟨q2.1.resolve_right e,q2.2⟩),if_neg q]
    · simp only [hcont];by_cases e:N=i
      · subst e; rw [if_pos ⟨.inr rfl,hd⟩]
      · rw [if_neg (λq=>hm N (by omega) (by omega) (q.1.resolve_right e) q.2)];exact h2 hd (by omega) (λm a b=>hm m a (by omega))
end
end Go.Ai
/- An abstract interpreter for the model's code: a drawn region's step,whatever has run before it. -/
namespace Go.Ai
open Option renaming bind->Zb,bind_some->Zs
open Classical
theorem zjS {a b:List Nat} (h:disj a b=true) {x:Nat} (hx:x∈a):x∉b:=by
 have:=List.all_eq_true.1 h x hx;simpa using this
structure Clear (f:Foot) (x:Nat):Prop where
 rd:x∉f.rd
 wr:x∉f.wr
 rall:f.rall=false
 wall:f.wall=false
theorem zpw {a b:Foot} (h:a.apart b=true) {x:Nat} (hx:x∈a.wr\/a.wall=true):Clear b x:=by
 unfold Foot.apart at h;simp only [Bool.and_eq_true,Bool.or_eq_true,Bool.not_eq_true',List.isEmpty_iff] at h;obtain ⟨⟨⟨⟨⟨⟨h1,h2⟩,h3⟩,h4⟩,h5⟩,h6⟩,h7⟩:=h;rcases hx with hx | hx
 . have hne:¬ a.wr=[]:=λq=>by rw [q] at hx; cases hx
   refine ⟨zjS h1 hx,zjS h2 hx, ?_, ?_⟩
   . rcases h7 with q | q
     . exact q
     . exact absurd q.1 hne
   . rcases h5 with q | q
     . exact q
     . exact absurd q.1.1.2 hne
 . rcases h4 with q | q
   . rw [hx] at q; cases q
   . obtain ⟨⟨⟨q1,q2⟩,q3⟩,q4⟩:=q;exact ⟨by rw [q1]; simp,by rw [q2]; simp,q3,q4⟩
theorem znR {a b:Foot} (h:a.apart b=true) {x:Nat} (hx:x∈b.wr\/b.wall=true):Clear a x:=by
 unfold Foot.apart at h;simp only [Bool.and_eq_true,Bool.or_eq_true,Bool.not_eq_true',List.isEmpty_iff] at h;obtain ⟨⟨⟨⟨⟨⟨h1,h2⟩,h3⟩,h4⟩,h5⟩,h6⟩,h7⟩:=h;rcases hx with hx | hx
 . have hne:¬ b.wr=[]:=λq=>by rw [q] at hx; cases hx
   refine ⟨λq=>zjS h3 q hx,λq=>zjS h2 q hx, ?_, ?_⟩
   . rcases h6 with q | q
     . exact q
     . exact absurd q.1 hne
   . rcases h4 with q | q
     . exact q
     . exact absurd q.1.1.2 hne
 . rcases h5 with q | q
   . rw [hx] at q; cases q
   . obtain ⟨⟨⟨q1,q2⟩,q3⟩,q4⟩:=q;exact ⟨by rw [q1]; simp,by rw [q2]; simp,q3,q4⟩
theorem zmK {ev:Operand->ze} {o:Oper} {b:Nat} (h:b∈(foot ev o).rd\/b∈(foot ev o).wr):∃ a∈o.op.operands.toList,b∈zL (ev a):=by
  unfold foot at h;have fl:∀ (c:Call),b∈(c.args.toList.map ev).flatMap zL->∃ a∈(Op.call c).operands.toList,b∈zL (ev a):=by
    intro c hb;obtain ⟨v,hv,hb⟩:=List.mem_flatMap.1 hb;obtain ⟨a,ha,rfl⟩:=List.mem_map.1 hv;exact ⟨a,by simp only [Op.operands,Call.operands,Array.toList_append,List.mem_append]; exact .inr ha,hb⟩
  cases ho:o.op<;>rw [ho] at h<;>simp only at h<;>(try (simp at h; done))
  case load t a=>exact ⟨a,by simp [Op.operands],by simpa using h⟩
  case store t a x=>exact ⟨a,by simp [Op.operands],by simpa using h⟩
  case lookup t x ix ok=>exact ⟨x,by simp [Op.operands],by simpa using h⟩
  case mapUpdate t m k x=>exact ⟨m,by simp [Op.operands],by simpa using h⟩
  case insert t m k x=>exact ⟨m,by simp [Op.operands],by simpa using h⟩
  case call c=>
    apply fl c;cases hc:c.callee with
    | value f=>rw [hc] at h; simp at h
    | invoke r m=>rw [hc] at h; simp at h
    | builtin bb=>
      rw [hc] at h;have hmap:∀ xs:List ze,b∈xs.flatMap znE->b∈xs.flatMap zL:=by
        intro xs hx;obtain ⟨v,hv,hb⟩:=List.mem_flatMap.1 hx;refine List.mem_flatMap.2 ⟨v,hv, ?_⟩;cases v<;>simp [znE] at hb;simp [zL,hb]
      have hsub:∀ (xs ys:List ze),(∀ y∈ys,y∈xs)->b∈ys.flatMap zL->b∈xs.flatMap zL:=by
        intro xs ys hy hx;obtain ⟨v,hv,hb⟩:=List.mem_flatMap.1 hx;exact List.mem_flatMap.2 ⟨v,hy v hv,hb⟩
      cases bb<;>simp only at h<;>(try (simp at h; done))
      case len=>
          rcases h with h | h
          · exact hmap _ h
          · cases h
      case append=>
          rcases h with h | h
          · exact hsub _ _ (λy hy=>List.mem_of_mem_drop hy) h
          · exact hsub _ _ (λy hy=>List.mem_of_mem_take hy) h
      case copy=>
          rcases h with h | h
          · exact hsub _ _ (λy hy=>List.mem_of_mem_drop hy) h
          · exact hsub _ _ (λy hy=>List.mem_of_mem_take hy) h
theorem zmL {ρ:Emb} {v:ze} {v':Value} (h:zaf ρ v v') {b:Nat} (hb:b∈zL v):∃ l,ρ b=some l:=by
 cases h<;>simp [zL] at hb
 . subst hb; exact ⟨_,by assumption⟩
 . subst hb; exact ⟨_,by assumption⟩
 . subst hb; exact ⟨_,by assumption⟩
noncomputable def inter (ρ ρi:Emb):Emb:=λb=>if (ρi b).isSome then ρ b else none
theorem zhe {ρ ρi:Emb} {b:Nat} {l li:Loc} (h:ρ b=some l) (hi:ρi b=some li):inter ρ ρi b=some l:=by
 unfold inter; rw [hi]; simpa using h
theorem zd6 {ρ ρi:Emb} {b:Nat} {l:Loc} (h:inter ρ ρi b=some l):ρ b=some l/\∃ li,ρi b=some li:=by
 unfold inter at h;cases hi:ρi b with
 | none=>rw [hi] at h; simp at h
 | some li=>rw [hi] at h; simp at h; exact ⟨h,li,rfl⟩
theorem zmp.inter {ρ ρi:Emb} {f f' f'':Fn} (h:zmp ρ f f') (hi:zmp ρi f f''):zmp (inter ρ ρi) f f':=by
 rcases h with ⟨l,l',rfl,rfl,loc,hl,hc⟩ | ⟨g,rfl,rfl⟩
 . rcases hi with ⟨l2,l2',e,rfl,loc2,hl2,_⟩ | ⟨g,e,_⟩
   . cases e;exact .inl ⟨_,_,rfl,rfl,loc,zhe hl hl2,hc⟩
   . cases e
 . exact .inr ⟨_,rfl,rfl⟩
theorem zaf.inter {ρ ρi:Emb} {v:ze} {x:Value} (h:zaf ρ v x):∀ {y:Value},zaf ρi v y->zaf (inter ρ ρi) v x:=by
 induction h with
 | undef v=>intro y _; exact .undef v
 | bool b=>intro y _; exact .bool b
 | int k n=>intro y _; exact .int k n
 | float k b=>intro y _; exact .float k b
 | str s=>intro y _; exact .str s
 | ptr b off l h=>intro y hy; cases hy with | ptr _ _ l2 h2=>exact .ptr b off l (zhe h h2)
 | nilptr=>intro y _; exact .nilptr
 | slice b off len es cap l a ccap h hlen hcap hoff=>intro y hy; cases hy with | slice _ _ _ _ _ l2 _ _ h2 _ _ _=>exact .slice b off len es cap l a ccap (zhe h h2) hlen hcap hoff
 | nilslice=>intro y _; exact .nilslice
 | map r l h=>intro y hy; cases hy with | map _ l2 h2=>exact .map r l (zhe h h2)
 | nilmap=>intro y _; exact .nilmap
 | func fn fn' f c f' c' hfn hf hc _ _ ihf ihc=>
  intro y hy;cases hy with
  | func _ fn2 _ _ f2 c2 hfn2 hf2 hc2 hfs2 hcs2=>
   refine .func fn fn' f c f' c' (hfn.inter hfn2) hf hc (λi v v' hv hv'=>?_) (λi v v' hv hv'=>?_)
   ·have hlt:i<f2.size:=by rw [← hf2]; exact (List.getElem?_eq_some_iff.1 hv).1
    exact ihf i v v' hv hv' (hfs2 i v _ hv (Array.getElem?_eq_getElem hlt))
   ·have hlt:i<c2.size:=by rw [← hc2]; exact (List.getElem?_eq_some_iff.1 hv).1
    exact ihc i v v' hv hv' (hcs2 i v _ hv (Array.getElem?_eq_getElem hlt))
 | nilfunc=>intro y _; exact .nilfunc
 | iface t v v' _ ih=>intro y hy; cases hy with | iface _ _ _ h2=>exact .iface t v v' (ih h2)
 | niliface=>intro y _; exact .niliface
 | agg cs cs' hl _ ih=>
  intro y hy;cases hy with
  | agg _ c2 hl2 hs2=>
   refine .agg cs cs' hl (λi v v' hv hv'=>?_);have hlt:i<c2.size:=by rw [← hl2]; exact (List.getElem?_eq_some_iff.1 hv).1
   exact ih i v v' hv hv' (hs2 i v _ hv (Array.getElem?_eq_getElem hlt))
 | tuple cs cs' hl _ ih=>
  intro y hy;cases hy with
  | tuple _ c2 hl2 hs2=>
   refine .tuple cs cs' hl (λi v v' hv hv'=>?_);have hlt:i<c2.size:=by rw [← hl2]; exact (List.getElem?_eq_some_iff.1 hv).1
   exact ih i v v' hv hv' (hs2 i v _ hv (Array.getElem?_eq_getElem hlt))
theorem znF.inter {base:Nat} {ρ ρi:Emb} {x:Option zfN} {l l':Loc} {w w':World} (h:znF base ρ x l w) (hi:znF base ρi x l' w'):znF base (inter ρ ρi) x l w:=by
 unfold znF at h hi ⊢;split
 . obtain ⟨cc,el,fz,h1,h2,h3,h4,h5⟩:=h;obtain ⟨_,_,_,_,_,_,g4,_⟩:=hi;exact ⟨cc,el,fz,h1,h2,h3,λi v hv=>by
    obtain ⟨v',a,b⟩:=h4 i v hv;obtain ⟨_,_,c⟩:=g4 i v hv;exact ⟨v',a,b.inter c⟩,h5⟩
 . obtain ⟨h0,ces,clk,h1,h2,h3⟩:=h;obtain ⟨_,_,_,_,_,g3⟩:=hi;exact ⟨h0,ces,clk,h1,h2,λi k v hv=>by
    obtain ⟨en,a,b,c⟩:=h3 i k v hv;obtain ⟨_,_,b2,c2⟩:=g3 i k v hv;exact ⟨en,a,b.inter b2,c.inter c2⟩⟩
 . obtain ⟨h0,L',h1,h2⟩:=h;obtain ⟨_,L2,_,g2⟩:=hi;exact ⟨h0,L',h1,⟨h2.state,h2.pending,h2.params,h2.assign,h2.body,λt=>(h2.frame t).inter (g2.frame t),h2.okP,h2.okA,h2.okB⟩⟩
 . trivial
 . exact h.elim
theorem zk3 {ρ:Emb} {fr:zi} {tmps:Array Value} {ops:Array Oper} {o:Oper} {b:Bool} (hf:∀ d∈looks ops.toList o,zaf ρ (fr.ev d) (tmps.getD d undef)) (hsz:∀ o∈ops.toList,∀ d,o.dst=some d->d<tmps.size) (hl:awanted ops.toList fr o.guard=some b):Region.wanted o (yielded ops tmps)=b:=by
 unfold awanted at hl;unfold Region.wanted;split at hl
 ·rename_i hg; simp at hl; subst hl; simp [hg]
 ·rename_i j want hg;simp only [hg];unfold yielded;have hl0:=hl;rw [Array.getElem?_toList] at hl;cases hd:(ops[j]?).bind (λo=>o.dst) with
  | none=>rw [hd] at hl; simp at hl; subst hl; simp
  | some d=>
   rw [hd] at hl;simp only at hl;have hlt:d<tmps.size:=by
    cases ho:ops[j]? with
    | none=>rw [ho] at hd; cases hd
    | some o'=>
     rw [ho] at hd;exact hsz o' (by rw [Array.mem_toList_iff]; exact Array.mem_of_getElem? ho) d hd
   have hv:=hf d (by
    unfold looks;refine List.mem_append.2 (.inr ?_);rw [hg];simp only [Array.getElem?_toList,hd];simp)
   have e:tmps.getD d undef=tmps[d]:=by simp [Array.getD,hlt]
   rw [e] at hv;simp only [Zs,Array.getElem?_eq_getElem hlt];generalize tmps[d]=y at hv;generalize fr.ev d=x at hv hl;cases hv<;>simp at hl<;>subst hl<;>simp
end Go.Ai
/- An abstract interpreter for the model's code: a drawn region,run in any order that its edges allow. -/
namespace Go.Ai
open Option renaming bind->Zb,bind_some->Zs
open Classical
structure Setup (T:Tab) (P:Program) (base:Nat) (call:Caller) (ops:Array Oper) (n:Nat) (st:Nat->zi×za) (vl:Nat->ze) (ft:Nat->Foot) (ex:Nat->Bool):Prop where
 ok:T.Ok P
 hc:zkX P base call
 hk:zfr call
 hops:zqo n ops
 hslots:zir ops.toList ops.toList 0=true
 tr:znQ T call ops.toList st vl ft ex 0 []
 run:∀ i,i<=ops.size->∃ ρi ti wi,ti.size=n/\zjE ρi (st i).1 ti/\zeJ base ρi (st i).2 wi
section
variable {T:Tab} {P:Program} {base:Nat} {call:Caller} {ops:Array Oper} {n:Nat} {st:Nat->zi×za} {vl:Nat->ze} {ft:Nat->Foot} {ex:Nat->Bool}
theorem zeJ.wm {ρ:Emb} {h:za} {w:World} (hr:zeJ base ρ h w) (x:Nat):zeJ base ρ { h with wm:=x } w:=
 ⟨hr.toH0.congr (λ_ _ _=>rfl),hr.lt⟩
theorem zoC (ok:T.Ok P) (hc:zkX P base call) (hops:zqo n ops) (tr:znQ T call ops.toList st vl ft ex 0 []) {ρ:Emb} {tmps:Array Value} {w:World} (hsz:tmps.size=n) (hf:zjE ρ (st 0).1 tmps) (hr:zeJ base ρ (st 0).2 w) :
    ∀ i,i<=ops.size->∃ ρi ti wi,ti.size=n/\zjE ρi (st i).1 ti/\zeJ base ρi (st i).2 wi
  | 0,_=>⟨ρ,tmps,w,hsz,hf,hr⟩
  | i+1,hi=>by
    obtain ⟨ρi,ti,wi,h1,h2,h3⟩:=zoC ok hc hops tr hsz hf hr i (by omega);have hlt:i<ops.size:=by omega
    have hoi:ops[i]?=some ops[i]:=Array.getElem?_eq_getElem hlt;have hol:ops.toList[i]?=some ops[i]:=by simp [hlt]
    have hmem:ops[i]∈ops.toList:=List.mem_of_getElem? hol;obtain ⟨hdst,hsv⟩:=hops _ hmem;have hall:∀ o∈ops.toList,∀ d,o.dst=some d->d<ti.size:=λo' ho' d hd'=>by rw [h1]; exact (hops o' ho').1 d hd'
    rcases tr.step i _ (Nat.zero_le _) hol with ⟨_,_,_,e⟩ | ⟨_,hw,h',hst,_,e⟩
    · rw [e];exact ⟨ρi,zkU ti ops[i].dst undef,wi,by rw [zf4]; exact h1,h2.putDst (λd hd=>hall _ hmem d hd) (.tuple' (.nil _)),h3⟩
    · have hwant:=zmA h2 hall hw;obtain ⟨r',w',ρ',hrel,hr',ht',_⟩:=zoA ok hc h2 (h3.wm _) hst hsv hoi hwant 0 .normal none [] [] [] [];cases r' with
      | pan _=>exact hrel.elim
      | ret v'=>
        rw [e];exact ⟨ρ',zkU ti ops[i].dst v',w',by rw [zf4]; exact h1,(h2.mono ht'.ext).putDst (λd hd=>hall _ hmem d hd) hrel,hr'.wm _⟩
variable (s:Setup T P base call ops n st vl ft ex)
include s
theorem Setup.ev {m t:Nat} (hm:m<ops.size):(st (m+1)).1.ev t=if zgu ops.toList m=some t then vl m else (st m).1.ev t:=by
 have hol:ops.toList[m]?=some ops[m]:=by simp [hm]
 have hd:zgu ops.toList m=ops[m].dst:=by unfold zgu; rw [hol]; rfl
 have key:∀ v,zi.ev (putDst (st m).1 ops[m].dst v) t=if zgu ops.toList m=some t then v else (st m).1.ev t:=by
  intro v;rw [hd];cases h:ops[m].dst with
  | none=>simp [putDst]
  | some d=>
   simp only [putDst,zi.ev_set,Option.some.injEq];by_cases e:t=d
   . subst e; simp
   . rw [if_neg e,if_neg (λq=>e q.symm)]
 rcases s.tr.step m _ (Nat.zero_le _) hol with ⟨_,_,hv,e⟩ | ⟨_,hw,h',hst,_,e⟩
 . rw [e,hv]; exact key _
 . rw [e]; exact key _
theorem Setup.mono1 {m:Nat} (hm:m<ops.size):(st m).2.next<=(st (m+1)).2.next:=by
 have hol:ops.toList[m]?=some ops[m]:=by simp [hm]
 rcases s.tr.step m _ (Nat.zero_le _) hol with ⟨_,_,hv,e⟩ | ⟨_,hw,h',hst,_,e⟩
 . rw [e]; exact Nat.le_refl _
 . rw [e]; exact (zgt s.hk hst).1
theorem Setup.mono {m k:Nat} (hmk:m<=k) (hk:k<=ops.size):(st m).2.next<=(st k).2.next:=by
  induction k with
  | zero=>
      have:m=0:=by omega
      subst this; exact Nat.le_refl _
  | succ k ih=>
    by_cases e:m=k+1
    · subst e; exact Nat.le_refl _
    · exact Nat.le_trans (ih (by omega) (by omega)) (s.mono1 (by omega))
theorem Setup.chg {m b:Nat} (hm:m<ops.size) (hb:b<(st m).2.next) (hne:(st (m+1)).2.get b≠(st m).2.get b):ex m=true/\(b∈(ft m).wr\/(ft m).wall=true):=by
 have hol:ops.toList[m]?=some ops[m]:=by simp [hm]
 rcases s.tr.step m _ (Nat.zero_le _) hol with ⟨_,_,hv,e⟩ | ⟨hex,hw,h',hst,hft,e⟩
 . rw [e] at hne; exact absurd rfl hne
 . refine ⟨hex, ?_⟩;rw [e] at hne;have hne:h'.get b≠(st m).2.get b:=hne;unfold astep at hst;split at hst
   . rename_i v h2 ha;cases hst;obtain ⟨f1,f2⟩:=zlB ha;obtain ⟨h2',g1,g2⟩:=zmI ha rfl (λ_ _=>rfl);rw [ha] at g1; cases g1;have hf:ft m=foot (st m).1.op ops[m]:=by rw [hft]; unfold zfO; rw [f1]; rfl
     rw [hf];rcases g2.2.2 b with ⟨q,_⟩ | ⟨_,q | ⟨q,_⟩⟩
     . exact absurd q hne
     . exact .inl q
     . exact absurd hb (by rw [q]; exact Nat.lt_irrefl _)
   . rename_i f as ha;have hf:ft m=zfO ⟨[],true,[],false⟩ (st m).2 h':=by rw [hft,zh1 ha]
     right;rw [hf];unfold zfO;simp only [cond_true];cases hb2:Nat.ble (st m).2.next h'.wm with
     | false=>rfl
     | true=>
      exfalso;have hle:=Nat.le_of_ble_eq_true hb2;have:=(s.hk _ _ _ _ _ hst).2.2 b hb (Nat.lt_of_lt_of_le hb hle);exact hne this
   . cases hst
theorem Setup.range_unique {m k b:Nat} (hm:m<ops.size) (hk:k<ops.size) (h1:(st m).2.next<=b) (h2:b<(st (m+1)).2.next) (h3:(st k).2.next<=b) (h4:b<(st (k+1)).2.next):m=k:=by
 rcases Nat.lt_trichotomy m k with q | q | q
 . have:=s.mono (m:=m+1) (k:=k) (by omega) (by omega); omega
 . exact q
 . have:=s.mono (m:=k+1) (k:=m) (by omega) (by omega); omega
end
structure Inv (base:Nat) (ops:Array Oper) (n:Nat) (st:Nat->zi×za) (vl:Nat->ze) (ρ0:Emb) (w0:World) (S:Nat->Prop) (ρ:Emb) (tmps:Array Value) (w:World) (hS:za):Prop where
 closed:Closed ops S
 lt:∀ i,S i->i<ops.size
 size:tmps.size=n
 frame:∀ t,zaf ρ (fcont ops.toList st vl S ops.size t) (tmps.getD t undef)
 cont:∀ b l,ρ b=some l->hS.get b=hcont st S ops.size b
 heap:H0 base ρ hS w
 core:Core ρ0 (st 0).2 w0 ρ hS w
 dom:∀ b l,ρ b=some l->ρ0 b=some l\/∃ m,S m/\(st m).2.next<=b/\b<(st (m+1)).2.next
 junk:∀ m b,S m->b<(st m).2.next->ρ b=none->(st (m+1)).2.get b=(st m).2.get b
section
variable {T:Tab} {P:Program} {base:Nat} {call:Caller} {ops:Array Oper} {n:Nat} {st:Nat->zi×za} {vl:Nat->ze} {ft:Nat->Foot} {ex:Nat->Bool}
variable {ρ0:Emb} {w0:World} {S:Nat->Prop} {ρ:Emb} {tmps:Array Value} {w:World} {hS:za}
variable (s:Setup T P base call ops n st vl ft ex) (hl0:∀ b l,ρ0 b=some l->b<(st 0).2.next) (inv:Inv base ops n st vl ρ0 w0 S ρ tmps w hS)
variable {i:Nat} (hi:i<ops.size) (hn:¬ S i) (hp:preds ops S i)
include s inv hi hn hp in
theorem zqs {o:Oper} (ho:ops.toList[i]?=some o) {t:Nat} (ht:t∈looks ops.toList o):fcont ops.toList st vl S ops.size t=(st i).1.ev t:=by
 rw [zk1 (i:=i) ops.size (by omega) ?_,ziw i (λm hm=>s.ev (by omega)) ?_]
 . intro m hm hd;have hml:m<ops.size:=by omega
   have hom:ops.toList[m]?=some ops[m]:=by simp [hml]
   rcases zfQ ops.toList ops.toList 0 s.hslots i o ho m ops[m] (by omega) hom with q | q
   . exfalso;have hd':ops[m].dst=some t:=by unfold zgu at hd; rw [hom] at hd; exact hd
     unfold zfj at q;rw [hd'] at q;simp only [Bool.and_eq_true] at q;have:=q.1.1;simp at this;exact this ht
   . rw [Nat.zero_add] at q;exact zd4 inv.closed hp q
 . intro m h1 h2 hm hd;have hne:m≠i:=λe=>hn (e▸hm);have hom:ops.toList[m]?=some ops[m]:=by simp [h2]
   rcases zfQ ops.toList ops.toList 0 s.hslots m ops[m] hom i o (by omega) ho with q | q
   . have hd':ops[m].dst=some t:=by unfold zgu at hd; rw [hom] at hd; exact hd
     unfold zfj at q;rw [hd'] at q;simp only [Bool.and_eq_true] at q;have:=q.2;simp at this;exact this ht
   . rw [Nat.zero_add] at q;exact hn (zd4 inv.closed (inv.closed m hm) q)
include s inv hn in
theorem zsz {o:Oper} (ho:ops.toList[i]?=some o) {t:Nat} (ht:o.dst=some t):∀ m,i<m->m<ops.size->S m->zgu ops.toList m≠some t:=by
 intro m h1 h2 hm hd;have hom:ops.toList[m]?=some ops[m]:=by simp [h2]
 rcases zfQ ops.toList ops.toList 0 s.hslots m ops[m] hom i o (by omega) ho with q | q
 . have hd':ops[m].dst=some t:=by unfold zgu at hd; rw [hom] at hd; exact hd
   unfold zfj at q;rw [hd',ht] at q;simp only [Bool.and_eq_true] at q;have:=q.1.2;simp at this
 . rw [Nat.zero_add] at q;exact hn (zd4 inv.closed (inv.closed m hm) q)
include s hl0 inv hi hn in
theorem zjl {b:Nat} (h1:(st i).2.next<=b) (h2:b<(st (i+1)).2.next):ρ b=none:=by
 cases h:ρ b with
 | none=>rfl
 | some l=>
  exfalso;rcases inv.dom b l h with q | ⟨m,hm,q1,q2⟩
  . have:=hl0 b l q;have:=s.mono (m:=0) (k:=i) (by omega) (by omega);omega
  . have:=s.range_unique (inv.lt m hm) hi q1 q2 h1 h2;exact hn (this▸hm)
include s hl0 inv hi hn in
theorem zmM {b:Nat} (h1:(st i).2.next<=b) (h2:b<(st (i+1)).2.next):∀ m,i<m->m<ops.size->S m->¬ Chg st m b:=by
 intro m h3 h4 hm hc;have hr:=zjl s hl0 inv hi hn h1 h2;have hle:=s.mono (m:=i+1) (k:=m) (by omega) (by omega);have:=inv.junk m b hm (by omega) hr;rcases hc.2 with q | q
 . omega
 . exact q this
include s hl0 inv hi hn hp in
theorem zqt (hex:ex i=true) {b:Nat} {l:Loc} (hb:ρ b=some l) (hlt:b<(st i).2.next) (hf:¬ Clear (ft i) b) :
 hcont st S ops.size b=(st i).2.get b/\∀ m,i<m->m<ops.size->S m->¬ Chg st m b:=by
 have later:∀ m,i<m->m<ops.size->S m->¬ Chg st m b:=by
  intro m h3 h4 hm hc;have hle:=s.mono (m:=i) (k:=m) (by omega) (by omega);rcases hc.2 with q | q
  . omega
  . obtain ⟨e1,e2⟩:=s.chg h4 (by omega) q;rcases s.tr.apart i m (Nat.zero_le _) h3 (by simpa using h4) e1 hex with a | a
    . exact hf (znR a e2)
    . exact hn (zd4 inv.closed (inv.closed m hm) a)
 refine ⟨?_,later⟩;rw [zk2 (i:=i) ops.size (by omega) ?_,zix i hlt (λm hm=>s.mono1 (by omega)) ?_]
 . intro m hm hc;by_cases hbm:b<(st m).2.next
   . have hne:(st (m+1)).2.get b≠(st m).2.get b:=hc.2.resolve_left (by omega);obtain ⟨e1,e2⟩:=s.chg (by omega) hbm hne;rcases s.tr.apart m i (Nat.zero_le _) hm (by simpa using hi) hex e1 with a | a
     . exact absurd (zpw a e2) hf
     . exact zd4 inv.closed hp a
   . rcases inv.dom b l hb with q | ⟨m',hm',q1,q2⟩
     . have:=hl0 b l q;have:=s.mono (m:=0) (k:=m) (by omega) (by omega);omega
     . have:=s.range_unique (inv.lt m' hm') (by omega) q1 q2 (by omega:(st m).2.next<=b) hc.1;exact this▸hm'
 . intro m h1 h2 hm;by_cases e:m=i
   . exact absurd (e▸hm) hn
   . exact later m (by omega) h2 hm
end
noncomputable def union (ρ' ρ:Emb):Emb:=λb=>if (ρ' b).isSome then ρ' b else ρ b
theorem zf5 {ρ' ρ:Emb} {b:Nat} {l:Loc} (h:ρ' b=some l):union ρ' ρ b=some l:=by
 unfold union; rw [h]; rfl
theorem zfs {ρ' ρ:Emb} {b:Nat} (h:ρ' b=none):union ρ' ρ b=ρ b:=by
 unfold union; rw [h]; rfl
section
variable {base:Nat} {ρ ρs ρ':Emb} {hS g g' h2:za} {w w':World}
theorem zsA (hr:H0 base ρ hS w) (hsub:Ext ρs ρ) (hg:∀ b l,ρs b=some l->g.get b=hS.get b) (ht:Trans ρs g w ρ' g' w') (hr':H0 base ρ' g' w')
    (hfr:∀ b,g.next<=b->b<g'.next->ρ b=none) (ha:∀ b l,ρ' b=some l->h2.get b=g'.get b) (hb:∀ b l,ρ b=some l->ρ' b=none->h2.get b=hS.get b) :
    Ext ρ (union ρ' ρ)/\Ext ρ' (union ρ' ρ)/\H0 base (union ρ' ρ) h2 w'/\Core ρ hS w (union ρ' ρ) h2 w':=by
  have dom':∀ b l,ρ' b=some l->ρs b=some l\/(g.next<=b/\b<g'.next):=ht.dom;have e1:Ext ρ (union ρ' ρ):=by
    intro b l h;cases h':ρ' b with
    | none=>rw [zfs h']; exact h
    | some l'=>
      rw [zf5 h'];rcases dom' b l' h' with q | ⟨q1,q2⟩
      · have:=hsub b l' q;rw [h] at this; cases this; rfl
      · rw [hfr b q1 q2] at h; cases h
  have e2:Ext ρ' (union ρ' ρ):=λb l h=>zf5 h;have ows:∀ b l,ρs b=some l->(Owns g b↔Owns hS b):=λb l h=>by unfold Owns; rw [hg b l h]
  have als:∀ b l,ρs b=some l->(Alive g b↔Alive hS b):=λb l h=>by unfold Alive; rw [hg b l h]
  have ow':∀ b l,ρ' b=some l->(Owns h2 b↔Owns g' b):=λb l h=>by unfold Owns; rw [ha b l h]
  have al':∀ b l,ρ' b=some l->(Alive h2 b↔Alive g' b):=λb l h=>by unfold Alive; rw [ha b l h]
  have owr:∀ b l,ρ b=some l->ρ' b=none->(Owns h2 b↔Owns hS b):=λb l h h'=>by unfold Owns; rw [hb b l h h']
  have alr:∀ b l,ρ b=some l->ρ' b=none->(Alive h2 b↔Alive hS b):=λb l h h'=>by unfold Alive; rw [hb b l h h']
  have cases':∀ b l,union ρ' ρ b=some l->ρ' b=some l\/(ρ' b=none/\ρ b=some l):=by
    intro b l h;cases h':ρ' b with
    | none=>rw [zfs h'] at h; exact .inr ⟨rfl,h⟩
    | some l'=>rw [zf5 h'] at h; exact .inl h
  have nos:∀ b,ρ' b=none->ρs b=none:=by
    intro b h;cases h':ρs b with
    | none=>rfl
    | some l=>rw [ht.ext b l h'] at h; cases h
  refine ⟨e1,e2,⟨?_, ?_, ?_, ?_⟩,⟨e1,ht.size, ?_, ?_,ht.os,ht.tape,ht.output, ?_⟩⟩
  · intro b l h;rcases cases' b l h with q | ⟨_,q⟩
    · exact hr'.clt b l q
    · exact Nat.lt_of_lt_of_le (hr.clt b l q) ht.size
  · intro b l h;rcases cases' b l h with q | ⟨q1,q⟩
    · rw [ha b l q];exact (hr'.blk b l q).mono e2 rfl
    · rw [hb b l q q1];by_cases al:Alive hS b
      · refine (hr.blk b l q).mono e1 (ht.frame l.c (hr.clt b l q) ?_);intro b1 l1 h1 ho1;refine hr.inj b1 b l1 l (hsub b1 l1 h1) q ?_ ((ows b1 l1 h1).1 ho1) al
        rintro rfl
        rw [nos b1 q1] at h1; cases h1
      · have hblk:=hr.blk b l q;unfold Alive at al;cases hx:hS.get b with
        | none=>rw [hx] at hblk; exact hblk.elim
        | some x=>
          rw [hx] at al;cases x with
          | dead=>trivial
          | arr _ _=>exact absurd trivial al
          | mp _=>exact absurd trivial al
          | loop _=>exact absurd trivial al
  · intro b b' l l' h h' hne ho hal;rcases cases' b l h with q | ⟨q1,q⟩<;>rcases cases' b' l' h' with p | ⟨p1,p⟩
    · exact hr'.inj b b' l l' q p hne ((ow' b l q).1 ho) ((al' b' l' p).1 hal)
    · have hog:=(ow' b l q).1 ho;have hah:=(alr b' l' p p1).1 hal;rcases ht.own b l q hog.alive with ⟨g1,g2,g3⟩ | g1 | ⟨b0,l0,g1,g2,g3⟩
      · exact hr.inj b b' l l' (hsub b l g1) p hne ((ows b l g1).1 (g3 hog)) hah
      · have:=hr.clt b' l' p; omega
      · have:=hr.inj b0 b' l0 l' (hsub b0 l0 g1) p (λe=>by rw [e,nos b' p1] at g1; cases g1) ((ows b0 l0 g1).1 g2) hah;omega
    · have hog:=(owr b l q q1).1 ho;have hah:=(al' b' l' p).1 hal;rcases ht.own b' l' p hah with ⟨g1,g2,g3⟩ | g1 | ⟨b0,l0,g1,g2,g3⟩
      · exact hr.inj b b' l l' q (hsub b' l' g1) hne hog ((als b' l' g1).1 g2)
      · have:=hr.clt b l q; omega
      · have:=hr.inj b0 b l0 l (hsub b0 l0 g1) q (λe=>by rw [e,nos b q1] at g1; cases g1) ((ows b0 l0 g1).1 g2) hog.alive;omega
    · exact hr.inj b b' l l' q p hne ((owr b l q q1).1 ho) ((alr b' l' p p1).1 hal)
  · exact Nat.le_trans hr.base ht.size
  · intro k hk hb';exact ht.frame k hk (λb l h1 h2=>hb' b l (hsub b l h1) ((ows b l h1).1 h2))
  · intro b l h hal;rcases cases' b l h with q | ⟨q1,q⟩
    · rcases ht.own b l q ((al' b l q).1 hal) with ⟨g1,g2,g3⟩ | g1 | ⟨b0,l0,g1,g2,g3⟩
      · exact .inl ⟨hsub b l g1,(als b l g1).1 g2,λz=>(ows b l g1).1 (g3 ((ow' b l q).1 z))⟩
      · exact .inr (.inl g1)
      · exact .inr (.inr ⟨b0,l0,hsub b0 l0 g1,(ows b0 l0 g1).1 g2,g3⟩)
    · exact .inl ⟨q,(alr b l q q1).1 hal,λz=>(owr b l q q1).1 z⟩
  · intro b l L h hL;cases hs:ρs b with
    | some l2=>
      have hL':g.get b=some (.loop L):=by rw [hg b l2 hs]; exact hL
      obtain ⟨L',g1,g2⟩:=ht.loops b l2 L hs hL';exact ⟨L',by rw [ha b l2 (ht.ext b l2 hs)]; exact g1,g2⟩
    | none=>
      have hnone:ρ' b=none:=by
        cases h':ρ' b with
        | none=>rfl
        | some l'=>
          rcases dom' b l' h' with q | ⟨q1,q2⟩
          · rw [hs] at q; cases q
          · rw [hfr b q1 q2] at h; cases h
      exact ⟨L,by rw [hb b l h hnone]; exact hL,.refl L⟩
end
end Go.Ai
/- An abstract interpreter for the model's code: one more operation of a drawn region; the whole region. -/
namespace Go.Ai
open Option renaming bind->Zb,bind_some->Zs
open Classical
def opF (f:Nat->ze):Operand->ze
 | .tmp t=>f t
 | x=>zi.op .leaf x
theorem zwM (fr:zi) (x:Operand):fr.op x=opF fr.ev x:=by cases x<;>rfl
theorem znS {ρ:Emb} {f:Nat->ze} {tmps:Array Value} (h:∀ t,zaf ρ (f t) (tmps.getD t undef)) (x:Operand):zaf ρ (opF f x) (evT tmps x):=by
 cases x with
 | tmp t=>exact h t
 | const v=>
  show zaf ρ ((zhA v).getD .undef) v;cases h:zhA v with
  | none=>exact .undef v
  | some y=>exact zeI ρ v y h
 | global g=>exact .undef _
 | func f=>exact .func _ _ [] [] #[] #[] (.inr ⟨f,rfl,rfl⟩) rfl rfl (by simp) (by simp)
theorem zlC {ops:List Oper} {o:Oper} {t:Nat} (h:Operand.tmp t∈o.op.operands.toList):t∈looks ops o:=by
 unfold looks;exact List.mem_append.2 (.inl (List.mem_flatMap.2 ⟨_,h,by simp [zqd]⟩))
section
variable {T:Tab} {P:Program} {base:Nat} {call:Caller} {ops:Array Oper} {n:Nat} {st:Nat->zi×za} {vl:Nat->ze} {ft:Nat->Foot} {ex:Nat->Bool}
variable {ρ0:Emb} {w0:World} {S:Nat->Prop} {ρ:Emb} {tmps:Array Value} {w:World} {hS:za}
variable (s:Setup T P base call ops n st vl ft ex) (hl0:∀ b l,ρ0 b=some l->b<(st 0).2.next) (inv:Inv base ops n st vl ρ0 w0 S ρ tmps w hS)
variable {i:Nat} (hi:i<ops.size) (hn:¬ S i) (hp:preds ops S i)
include s inv hi hn hp in
theorem ziy {o:Oper} (ho:ops.toList[i]?=some o) {x:Operand} (hx:x∈o.op.operands.toList):(st i).1.op x=opF (fcont ops.toList st vl S ops.size) x:=by
 rw [zwM];cases x with
 | tmp t=>exact (zqs s inv hi hn hp ho (zlC hx)).symm
 | const v=>rfl
 | global g=>rfl
 | func f=>rfl
include inv hi hp in
theorem zwy:Closed ops (λx=>S x\/x=i):=by
 intro j hj o ho e he hb;rcases hj with hj | hj
 . exact .inl (inv.closed j hj o ho e he hb)
 . subst hj; exact .inl (hp o ho e he hb)
include s inv hi hn in
theorem zmN {o:Oper} (ho:ops.toList[i]?=some o) {ρ2:Emb} {v':Value} (he:Ext ρ ρ2) (hv:zaf ρ2 (vl i) v') (hd:∀ d,o.dst=some d->d<tmps.size) (t:Nat) :
    zaf ρ2 (fcont ops.toList st vl (λx=>S x\/x=i) ops.size t) ((zkU tmps o.dst v').getD t undef):=by
  have hdo:zgu ops.toList i=o.dst:=by unfold zgu; rw [ho]; rfl
  by_cases e:o.dst=some t
  · rw [(zjR hn ops.size).2 (hdo.trans e) hi (zsz s inv hn ho e)];rw [e];have hlt:=hd t e;simp [zkU,Array.getD,hlt];exact hv
  · rw [(zjR hn ops.size).1 (by rw [hdo]; exact e)];have:=(inv.frame t).mono he;cases hdst:o.dst with
    | none=>exact this
    | some d=>
      have hne:d≠t:=λq=>e (by rw [hdst,q]);simp only [zkU];rw [show (tmps.setIfInBounds d v').getD t undef=tmps.getD t undef from by
        simp [Array.getD_eq_getD_getElem?,Array.getElem?_setIfInBounds,hne]]
      exact this
variable (fn:FuncId) (kind:CallKind) (rnd:Option Nat) (ds:List Deferred) (is:List Nat) (k:List Item) (cs:List Frame)
def Goes (P:Program) (base:Nat) (ops:Array Oper) (n:Nat) (st:Nat->zi×za) (vl:Nat->ze) (ρ0:Emb) (w0:World) (S:Nat->Prop) (i:Nat) (tmps:Array Value) (w:World)
 (fn:FuncId) (kind:CallKind) (rnd:Option Nat) (ds:List Deferred) (is:List Nat) (k:List Item) (cs:List Frame):Prop:=
 ∃ ρ2 tmps2 w2 h2,Inv base ops n st vl ρ0 w0 (λx=>S x\/x=i) ρ2 tmps2 w2 h2 /\
  Steps P (lone (fat fn kind rnd tmps ds (.inRegion ops (i::is)::k)) cs w) (lone (fat fn kind rnd tmps2 ds (.inRegion ops is::k)) cs w2)
include s inv hi hn hp in
theorem zqu {o:Oper} (ho:ops.toList[i]?=some o) (hd:∀ d,o.dst=some d->d<tmps.size) (hw:Region.wanted o (yielded ops tmps)=false) (hv:vl i=unit) (e:(st (i+1)).2=(st i).2) :
 Goes P base ops n st vl ρ0 w0 S i tmps w fn kind rnd ds is k cs:=by
 have hoi:ops[i]?=some o:=by simpa using ho
 have hnc:∀ b,ρ b≠none->¬ Chg st i b:=by
  intro b _ hc;unfold Chg at hc;rw [e] at hc;rcases hc.2 with q | q
  . have:=hc.1; omega
  . exact q rfl
 refine ⟨ρ,zkU tmps o.dst undef,w,hS,⟨zwy inv hi hp, ?_,by rw [zf4]; exact inv.size, ?_, ?_,inv.heap,inv.core, ?_, ?_⟩, ?_⟩
 . rintro j (hj | rfl)
   . exact inv.lt j hj
   . exact hi
 . exact zmN s inv hi hn ho (.refl _) (by rw [hv]; exact .tuple' (.nil _)) hd
 . intro b l hb;rw [(zd5 hn ops.size).1 (hnc b (by rw [hb]; simp))];exact inv.cont b l hb
 . intro b l hb;rcases inv.dom b l hb with q | ⟨m,hm,q⟩
   . exact .inl q
   . exact .inr ⟨m,.inl hm,q⟩
 . intro m b hm hb hr;rcases hm with hm | rfl
   . exact inv.junk m b hm hb hr
   . rw [e]
 . have hst:=zkV (P:=P) (fn:=fn) (kind:=kind) (rnd:=rnd) (tmps:=tmps) (ds:=ds) (k:=k) (cs:=cs) (w:=w) (ops:=ops) (i:=i) (is:=is) (by simp [hoi,hw]);rw [hoi] at hst;simp only [Zs] at hst;exact .one hst
include s hl0 inv hi hn hp in
theorem zqv {o:Oper} (ho:ops.toList[i]?=some o) (hd:∀ d,o.dst=some d->d<tmps.size) {ρs ρ':Emb} {g g':za} {w':World} {v':Value}
    (hsub:Ext ρs ρ) (hg:∀ b l,ρs b=some l->g.get b=hS.get b) (ht:Trans ρs g w ρ' g' w') (hr':H0 base ρ' g' w') (hv:zaf ρ' (vl i) v')
    (gn:g.next=(st i).2.next) (gn':g'.next=(st (i+1)).2.next)
    (ha:∀ b l,ρ' b=some l->g'.get b=hcont st (λx=>S x\/x=i) ops.size b)
    (hb:∀ b l,ρ b=some l->ρ' b=none->¬ Chg st i b)
    (hj:∀ b,b<(st i).2.next->ρ b=none->(st (i+1)).2.get b=(st i).2.get b)
    (hst:Steps P (lone (fat fn kind rnd tmps ds (.inRegion ops (i::is)::k)) cs w) (lone (fat fn kind rnd (zkU tmps o.dst v') ds (.inRegion ops is::k)) cs w')) :
    Goes P base ops n st vl ρ0 w0 S i tmps w fn kind rnd ds is k cs:=by
  have hbound:∀ b l,union ρ' ρ b=some l->b<(st ops.size).2.next:=by
    intro b l h;have old:∀ l,ρ b=some l->b<(st ops.size).2.next:=by
      intro l h;rcases inv.dom b l h with q | ⟨m,hm,q1,q2⟩
      · have:=hl0 b l q;have:=s.mono (m:=0) (k:=ops.size) (by omega) (by omega);omega
      · have:=inv.lt m hm;have:=s.mono (m:=m+1) (k:=ops.size) (by omega) (by omega);omega
    cases h':ρ' b with
    | none=>rw [zfs h'] at h; exact old l h
    | some l'=>
      rcases ht.dom b l' h' with q | ⟨q1,q2⟩
      · exact old l' (hsub b l' q)
      · have:=s.mono (m:=i+1) (k:=ops.size) (by omega) (by omega);omega
  obtain ⟨h2,hn2,hget⟩:=zuc (hcont st (λx=>S x\/x=i) ops.size) 0 (st ops.size).2.next;have hcont2:∀ b l,union ρ' ρ b=some l->h2.get b=hcont st (λx=>S x\/x=i) ops.size b:=λb l h=>by
    rw [hget,if_pos (hbound b l h)]
  have ha2:∀ b l,ρ' b=some l->h2.get b=g'.get b:=λb l h=>by rw [hcont2 b l (zf5 h),ha b l h]
  have hb2:∀ b l,ρ b=some l->ρ' b=none->h2.get b=hS.get b:=λb l h h'=>by
    rw [hcont2 b l (by rw [zfs h']; exact h),(zd5 hn ops.size).1 (hb b l h h'),inv.cont b l h]
  obtain ⟨e1,e2,m1,m2⟩:=zsA inv.heap hsub hg ht hr' (λb h1 h2=>zjl s hl0 inv hi hn (by omega) (by omega)) ha2 hb2;refine ⟨union ρ' ρ,zkU tmps o.dst v',w',h2,⟨zwy inv hi hp, ?_,by rw [zf4]; exact inv.size, ?_,hcont2,m1,inv.core.trans m2, ?_, ?_⟩,hst⟩
  · rintro j (hj | rfl)
    · exact inv.lt j hj
    · exact hi
  · exact zmN s inv hi hn ho e1 (hv.mono e2) hd
  · intro b l h;have old:ρ b=some l->ρ0 b=some l\/∃ m,(S m\/m=i)/\(st m).2.next<=b/\b<(st (m+1)).2.next:=by
      intro h;rcases inv.dom b l h with q | ⟨m,hm,q⟩
      · exact .inl q
      · exact .inr ⟨m,.inl hm,q⟩
    cases h':ρ' b with
    | none=>rw [zfs h'] at h; exact old h
    | some l'=>
      have hl:l'=l:=by rw [zf5 h'] at h; cases h; rfl
      subst hl;rcases ht.dom b l' h' with q | ⟨q1,q2⟩
      · exact old (hsub b l' q)
      · exact .inr ⟨i,.inr rfl,by omega,by omega⟩
  · intro m b hm hlt hr;have hr1:ρ b=none:=by
      cases h:ρ b with
      | none=>rfl
      | some l=>rw [e1 b l h] at hr; cases hr
    rcases hm with hm | rfl
    · exact inv.junk m b hm hlt hr1
    · exact hj b hlt hr1
include s inv hi hn hp in
theorem zsB {o:Oper} (ho:ops.toList[i]?=some o) {b:Nat} (hb:b∈(foot (st i).1.op o).rd\/b∈(foot (st i).1.op o).wr):(∃ l,ρ b=some l)/\b<(st i).2.next:=by
 obtain ⟨a,ha,hb⟩:=zmK hb;constructor
 . rw [ziy s inv hi hn hp ho ha] at hb;exact zmL (znS inv.frame a) hb
 . obtain ⟨ρi,ti,wi,h1,h2,h3⟩:=s.run i (by omega);obtain ⟨l,hl⟩:=zmL (zjM h2 a) hb;exact h3.lt b l hl
include hi hn in
theorem zoD {b:Nat} (hc:(st (i+1)).2.get b≠(st i).2.get b\/(st i).2.next<=b) (hlt:b<(st (i+1)).2.next) (hl:∀ m,i<m->m<ops.size->S m->¬ Chg st m b) :
 hcont st (λx=>S x\/x=i) ops.size b=(st (i+1)).2.get b:=
 (zd5 hn ops.size).2 ⟨hlt,hc.symm⟩ hi hl
include s hl0 inv hi hn hp in
theorem zpx {o:Oper} (ho:ops.toList[i]?=some o) (hd:∀ d,o.dst=some d->d<tmps.size) (hw:Region.wanted o (yielded ops tmps)=true) (hs:zeD o.op=true)
 (hex:ex i=true) {h':za} (ha:aop T (st i).1.op { (st i).2 with wm:=(st i).2.next } o.op=some (.val (vl i) h'))
 (hft:ft i=foot (st i).1.op o) (e:(st (i+1)).2={ h' with wm:=min (st i).2.wm h'.wm }) :
 Goes P base ops n st vl ρ0 w0 S i tmps w fn kind rnd ds is k cs:=by
 have hoi:ops[i]?=some o:=by simpa using ho
 have egt:∀ b,(st (i+1)).2.get b=h'.get b:=λb=>by rw [e]; rfl
 have enx:(st (i+1)).2.next=h'.next:=by rw [e]
 have hat:∀ b,b∈(foot (st i).1.op o).rd\/b∈(foot (st i).1.op o).wr->(∃ l,ρ b=some l)/\b<(st i).2.next/\hcont st S ops.size b=(st i).2.get b/\∀ m,i<m->m<ops.size->S m->¬ Chg st m b:=by
  intro b hb;obtain ⟨⟨l,hl⟩,hlt⟩:=zsB s inv hi hn hp ho hb;refine ⟨⟨l,hl⟩,hlt,zqt s hl0 inv hi hn hp hex hl hlt (λc=>?_)⟩;rw [hft] at c;rcases hb with hb | hb
  . exact c.rd hb
  . exact c.wr hb
 obtain ⟨h2',g1,g2⟩:=zmI (h2:={ hS with next:=(st i).2.next,wm:=(st i).2.next }) ha rfl (λb hb=>by
  obtain ⟨⟨l,hl⟩,hlt,hc,_⟩:=hat b hb;show hS.get b=(st i).2.get b;rw [inv.cont b l hl,hc])
 rw [zqr (ev':=opF (fcont ops.toList st vl S ops.size)) (λx hx=>ziy s inv hi hn hp ho hx)] at g1;have hH:H0 base ρ { hS with next:=(st i).2.next,wm:=(st i).2.next } w:=inv.heap.congr (λ_ _ _=>rfl);obtain ⟨nx,v',w',ρ',q1,q2,q3,q4,q5⟩:=zt8 s.ok (o:=o) hH (λhne=>by
  have hne:h2'.next≠(st i).2.next:=hne;refine zjl s hl0 inv hi hn (b:=(st i).2.next) (Nat.le_refl _) ?_;have a1:h2'.next=h'.next:=g2.1;have a2:h'.next=(st i).2.next\/h'.next=(st i).2.next+1:=g2.2.1;omega) (λx=>znS inv.frame x) g1
 have hnx:h2'.next=(st (i+1)).2.next:=by rw [enx]; exact g2.1
 refine zqv s hl0 inv hi hn hp fn kind rnd ds is k cs ho hd (ρs:=ρ) (ρ':=ρ') (g:={ hS with next:=(st i).2.next,wm:=(st i).2.next }) (g':=h2') (.refl _) (λ_ _ _=>rfl) q5 q4 q3 rfl hnx ?_ ?_ ?_ ?_
 . intro b l hb;have hbd:(∃ l,ρ b=some l)\/((st i).2.next<=b/\b<(st (i+1)).2.next):=by
    rcases q5.dom b l hb with z | ⟨z1,z2⟩
    . exact .inl ⟨l,z⟩
    . exact .inr ⟨z1,by rw [← hnx]; exact z2⟩
   rcases g2.2.2 b with ⟨z1,z2,z3⟩ | ⟨z1,z2⟩
   . have hnr:¬ ((st i).2.next<=b/\b<(st (i+1)).2.next):=by
      rintro ⟨y1,y2⟩
      rw [enx] at y2;have:=g2.2.1;simp only at z3 this;omega
     have hnc:¬ Chg st i b:=by
      rintro ⟨c1,c2⟩
      rcases c2 with c2 | c2
      . exact hnr ⟨c2,c1⟩
      . exact c2 ((egt b).trans z1)
     obtain ⟨l1,hl1⟩:=hbd.resolve_right hnr;rw [z2,(zd5 hn ops.size).1 hnc];exact inv.cont b l1 hl1
   . rw [z1,← egt b];rcases z2 with z2 | ⟨z2,z3⟩
     . obtain ⟨⟨l1,hl1⟩,hlt,hc,hlat⟩:=hat b (.inr z2);by_cases hch:Chg st i b
       . exact ((zd5 hn ops.size).2 hch hi hlat).symm
       . rw [(zd5 hn ops.size).1 hch,hc];have hlt2:b<(st (i+1)).2.next:=Nat.lt_of_lt_of_le hlt (s.mono1 hi);by_cases q:(st (i+1)).2.get b=(st i).2.get b
         . exact q
         . exact absurd ⟨hlt2,.inr q⟩ hch
     . simp only at z2 z3;have h1:(st i).2.next<=b:=by omega
       have h2:b<(st (i+1)).2.next:=by omega
       exact (zoD hi hn (.inr h1) h2 (zmM s hl0 inv hi hn h1 h2)).symm
 . intro b l hb hb';rw [q5.ext b l hb] at hb'; cases hb'
 . intro b hlt hr;rw [egt];rcases g2.2.2 b with ⟨z1,z2,z3⟩ | ⟨z1,z2⟩
   . exact z1
   . rcases z2 with z2 | ⟨z2,z3⟩
     . obtain ⟨⟨l1,hl1⟩,_⟩:=hat b (.inr z2);rw [hr] at hl1; cases hl1
     . simp only at z2; omega
 . exact .one (zjL hoi hw hs q1 q2)
include s hl0 inv hi hn hp in
theorem zqw {o:Oper} (ho:ops.toList[i]?=some o) (hd:∀ d,o.dst=some d->d<tmps.size) (hw:Region.wanted o (yielded ops tmps)=true) (hs:zeD o.op=true)
    (hex:ex i=true) {f:ze} {as:List ze} {h':za} (ha:aop T (st i).1.op { (st i).2 with wm:=(st i).2.next } o.op=some (.call f as)) (hcl:call f as { (st i).2 with wm:=(st i).2.next }=some (.ret (vl i),h'))
    (hft:(ft i).rall=true) (e:(st (i+1)).2={ h' with wm:=min (st i).2.wm h'.wm }) :
    Goes P base ops n st vl ρ0 w0 S i tmps w fn kind rnd ds is k cs:=by
  have hoi:ops[i]?=some o:=by simpa using ho
  have egt:∀ b,(st (i+1)).2.get b=h'.get b:=λb=>by rw [e]; rfl
  have enx:(st (i+1)).2.next=h'.next:=by rw [e]
  obtain ⟨ρi,ti,wi,r1,r2,r3⟩:=s.run i (by omega);have hat:∀ b l,inter ρ ρi b=some l->hcont st S ops.size b=(st i).2.get b/\∀ m,i<m->m<ops.size->S m->¬ Chg st m b:=by
    intro b l hb;obtain ⟨h1,li,h2⟩:=zd6 hb;refine zqt s hl0 inv hi hn hp hex h1 (r3.lt b li h2) (λc=>?_);have:=c.rall;rw [hft] at this; cases this
  have hget:∀ b l,inter ρ ρi b=some l->(st i).2.get b=hS.get b:=λb l hb=>by
    rw [inv.cont b l (zd6 hb).1,(hat b l hb).1]
  have hH:zeJ base (inter ρ ρi) { (st i).2 with wm:=(st i).2.next } w:=by
    refine ⟨⟨?_, ?_, ?_,inv.heap.base⟩, ?_⟩
    · intro b l hb; exact inv.heap.clt b l (zd6 hb).1
    · intro b l hb;obtain ⟨h1,li,h2⟩:=zd6 hb;have g1:=inv.heap.blk b l h1;rw [← hget b l hb] at g1;exact g1.inter (r3.blk b li h2)
    · intro b b' l l' hb hb' hne ho ha;refine inv.heap.inj b b' l l' (zd6 hb).1 (zd6 hb').1 hne ?_ ?_
      · unfold Owns at ho ⊢; rw [← hget b l hb]; exact ho
      · unfold Alive at ha ⊢; rw [← hget b' l' hb']; exact ha
    · intro b l hb;obtain ⟨h1,li,h2⟩:=zd6 hb;exact r3.lt b li h2
  have hop:∀ x∈o.op.operands.toList,zaf (inter ρ ρi) ((st i).1.op x) (evT tmps x):=by
    intro x hx;have h1:=znS inv.frame x;rw [← ziy s inv hi hn hp ho hx] at h1;exact h1.inter (zjM r2 x)
  obtain ⟨c,fo,hopc,hcal,rfl,rfl⟩:=zcE ha;have hfo:fo∈o.op.operands.toList:=by rw [hopc]; simp [Op.operands,Call.operands,hcal]
  have hargs:zcm (inter ρ ρi) (c.args.toList.map (st i).1.op) (c.args.map (evT tmps)).toList:=by
    refine ⟨by simp,λj v v' hv hv'=>?_⟩;rw [Array.toList_map] at hv';rw [List.getElem?_map] at hv hv';cases hx:c.args.toList[j]? with
    | none=>rw [hx] at hv; cases hv
    | some x=>
      rw [hx] at hv hv';cases hv; cases hv';refine hop x ?_;rw [hopc];simp only [Op.operands,Call.operands,Array.toList_append,List.mem_append];exact .inr (List.mem_of_getElem? hx)
  obtain ⟨nx,fs,h1,h2,h3⟩:=s.hc _ _ _ _ _ hcl (inter ρ ρi) w (evT tmps fo) (c.args.map (evT tmps)) (hop fo hfo) hargs hH;have hrun:(execOp (evT tmps) o).run P w=.ok nx w:=by
    unfold execOp;rw [hopc];simp only [resolve,hcal];exact h1
  have hst:=zkW (fn:=fn) (kind:=kind) (rnd:=rnd) (ds:=ds) (k:=k) (cs:=cs) (is:=is) hoi hw hs hrun h2;obtain ⟨r',w',ρ',q1,q2,q3,q4⟩:=h3 (fat fn kind rnd tmps ds (.inRegion ops (i::is)::k)) cs;cases r' with
  | pan _=>exact q1.elim
  | ret v'=>
    have hfin:(zsa.ret v').frame (fat fn kind rnd tmps ds (.inRegion ops (i::is)::k))=fat fn kind rnd (zkU tmps o.dst v') ds (.inRegion ops is::k):=by
      simp only [zsa.frame];rw [zhd,hoi]; rfl
    have hsteps:=Steps.head hst q4;rw [hfin] at hsteps;have nr:∀ b,ρ' b=none->inter ρ ρi b=none:=by
      intro b hb;cases z:inter ρ ρi b with
      | none=>rfl
      | some l=>rw [q3.ext b l z] at hb; cases hb
    have hj:∀ b,b<(st i).2.next->inter ρ ρi b=none->(st (i+1)).2.get b=(st i).2.get b:=λb hlt hr=>by
      rw [egt]; exact q3.junk b hlt hr
    refine zqv s hl0 inv hi hn hp fn kind rnd ds is k cs ho hd (ρs:=inter ρ ρi) (ρ':=ρ') (g:={ (st i).2 with wm:=(st i).2.next }) (g':=h') (λb l hb=>(zd6 hb).1) hget q3 q2.toH0 q1 rfl enx.symm ?_ ?_ ?_ hsteps
    · intro b l hb;rw [← egt];rcases q3.dom b l hb with z | ⟨z1,z2⟩
      · obtain ⟨hc,hlat⟩:=hat b l z;have hlt:=hH.lt b l z;have hlt:b<(st i).2.next:=hlt;by_cases hch:Chg st i b
        · exact ((zd5 hn ops.size).2 hch hi hlat).symm
        · rw [(zd5 hn ops.size).1 hch,hc];have hlt2:b<(st (i+1)).2.next:=Nat.lt_of_lt_of_le hlt (s.mono1 hi);by_cases q:(st (i+1)).2.get b=(st i).2.get b
          · exact q
          · exact absurd ⟨hlt2,.inr q⟩ hch
      · have h1:(st i).2.next<=b:=z1;have h2:b<(st (i+1)).2.next:=by rw [enx]; exact z2
        exact (zoD hi hn (.inr h1) h2 (zmM s hl0 inv hi hn h1 h2)).symm
    · rintro b l hb hb' ⟨c1,c2⟩
      by_cases hlt:b<(st i).2.next
      · exact (c2.resolve_left (by omega)) (hj b hlt (nr b hb'))
      · rw [zjl s hl0 inv hi hn (by omega) c1] at hb; cases hb
    · intro b hlt hr;refine hj b hlt ?_;cases z:inter ρ ρi b with
      | none=>rfl
      | some l=>rw [(zd6 z).1] at hr; cases hr
include s hl0 inv hi hn hp in
theorem goes:Goes P base ops n st vl ρ0 w0 S i tmps w fn kind rnd ds is k cs:=by
 have hol:ops.toList[i]?=some ops[i]:=by simp [hi]
 have hmem:ops[i]∈ops.toList:=List.mem_of_getElem? hol;obtain ⟨hdst,hsv⟩:=s.hops _ hmem;have hall:∀ o∈ops.toList,∀ d,o.dst=some d->d<tmps.size:=λo' ho' d hd'=>by rw [inv.size]; exact (s.hops o' ho').1 d hd'
 have hlk:∀ d∈looks ops.toList ops[i],zaf ρ ((st i).1.ev d) (tmps.getD d undef):=λd hd=>by
  rw [← zqs s inv hi hn hp hol hd]; exact inv.frame d
 rcases s.tr.step i _ (Nat.zero_le _) hol with ⟨_,hw,hv,e⟩ | ⟨hex,hw,h',hst,hft,e⟩
 . exact zqu s inv hi hn hp fn kind rnd ds is k cs hol (hall _ hmem) (zk3 hlk hall hw) hv (by rw [e])
 . have hwt:=zk3 hlk hall hw;unfold astep at hst;split at hst
   . rename_i v h2 ha;cases hst;obtain ⟨f1,f2⟩:=zlB ha;exact zpx s hl0 inv hi hn hp fn kind rnd ds is k cs hol (hall _ hmem) hwt hsv hex ha (by rw [hft]; unfold zfO; rw [f1]; rfl) (by rw [e])
   . rename_i f as ha;exact zqw s hl0 inv hi hn hp fn kind rnd ds is k cs hol (hall _ hmem) hwt hsv hex ha hst (by rw [hft,zh1 ha]; rfl) (by rw [e])
   . cases hst
include s hl0 in
theorem zsC {l:List Nat} (hs:Sched ops S l):∀ {ρ:Emb} {tmps:Array Value} {w:World} {hS:za},Inv base ops n st vl ρ0 w0 S ρ tmps w hS ->
    ∃ ρ2 tmps2 w2 h2,Inv base ops n st vl ρ0 w0 (λi=>i<ops.size) ρ2 tmps2 w2 h2 /\
      Steps P (lone (fat fn kind rnd tmps ds (.inRegion ops l::k)) cs w) (lone (fat fn kind rnd tmps2 ds (.inRegion ops []::k)) cs w2):=by
  induction hs with
  | nil S h=>
    intro ρ tmps w hS inv;have:S=(λi=>i<ops.size):=funext λx=>propext ⟨inv.lt x,h x⟩;subst this;exact ⟨ρ,tmps,w,hS,inv,.refl _ _⟩
  | cons S i l hi hn hp _ ih=>
    intro ρ tmps w hS inv;obtain ⟨ρ1,t1,w1,h1,i1,s1⟩:=goes s hl0 inv hi hn hp fn kind rnd ds l k cs;obtain ⟨ρ2,t2,w2,h2,i2,s2⟩:=ih i1;exact ⟨ρ2,t2,w2,h2,i2,s1.trans s2⟩
end
theorem zuJ {T:Tab} {P:Program} {base:Nat} (ok:T.Ok P):zub T P base:=by
 intro call hc hk ops n hops hedge hslots fr h fr' h' hl ρ w ds rnd tmps t pre fn kind k cs;obtain ⟨st,vl,ft,ex,s0,tr,sN⟩:=zhE ops.toList 0 [] fr h fr' h' (by simp) hl;simp only [Nat.zero_add,Array.length_toList] at sN;have e1:(st 0).1=fr:=by rw [s0]
 have e2:(st 0).2=h:=by rw [s0]
 have s:Setup T P base call ops n st vl ft ex:=⟨ok,hc,hk,hops,hslots,tr,zoC ok hc hops tr pre.size (by rw [e1]; exact pre.frame) (by rw [e2]; exact pre.heap)⟩;have hf0:∀ N t,fcont ops.toList st vl (λ_=>False) N t=fr.ev t:=by
  intro N t;induction N with
  | zero=>simp only [fcont]; rw [e1]
  | succ N ih=>simp only [fcont]; rw [if_neg (λq=>q.1)]; exact ih
 have hh0:∀ N b,hcont st (λ_=>False) N b=h.get b:=by
  intro N b;induction N with
  | zero=>simp only [hcont]; rw [e2]
  | succ N ih=>simp only [hcont]; rw [if_neg (λq=>q.1)]; exact ih
 have hl0:∀ b l,ρ b=some l->b<(st 0).2.next:=by rw [e2]; exact pre.heap.lt
 have inv0:Inv base ops n st vl ρ w (λ_=>False) ρ tmps w h:=by
  refine ⟨λi hi=>hi.elim,λi hi=>hi.elim,pre.size,λt=>?_,λb l _=>?_,pre.heap.toH0, ?_,λb l hb=>.inl hb,λm b hm=>hm.elim⟩
  . rw [hf0]; exact pre.frame t
  . rw [hh0]
  . rw [e2]; exact .refl _ _ _
 obtain ⟨ρ2,t2,w2,h2,inv,hsteps⟩:=zsC s hl0 fn kind rnd ds k cs (zkC hedge t) inv0;have ehc:∀ b l,ρ2 b=some l->h2.get b=(st ops.size).2.get b:=by
  intro b l hb;rw [inv.cont b l hb];refine zix ops.size ?_ (λm hm=>s.mono1 hm) (λm hm _=>hm);rcases inv.dom b l hb with q | ⟨m,hm,q1,q2⟩
  . exact Nat.lt_of_lt_of_le (hl0 b l q) (s.mono (Nat.zero_le _) (Nat.le_refl _))
  . exact Nat.lt_of_lt_of_le q2 (s.mono (by omega) (Nat.le_refl _))
 have efr:∀ t,fcont ops.toList st vl (λi=>i<ops.size) ops.size t=(st ops.size).1.ev t:=λt=>ziw ops.size (λm hm=>s.ev hm) (λm hm _=>hm);have eN1:(st ops.size).1=fr':=by rw [sN]
 have eN2:(st ops.size).2=h':=by rw [sN]
 have hH:H0 base ρ2 h' w2:=by rw [← eN2]; exact inv.heap.congr (λb l hb=>(ehc b l hb).symm)
 have hC:Core ρ h w ρ2 h' w2:=by
  have:=inv.core.congr (g:=h) (g':=h') (λb l _=>by rw [e2]) (λb l hb=>by rw [← eN2]; exact (ehc b l hb).symm);exact this
 have hT:Trans ρ h w ρ2 h' w2:=by
  refine ⟨hC.ext,hC.size,hC.frame,hC.own,hC.os,hC.tape,hC.output,hC.loops, ?_, ?_, ?_⟩
  . rw [← e2,← eN2]; exact s.mono (Nat.zero_le _) (Nat.le_refl _)
  . intro b l hb;rcases inv.dom b l hb with q | ⟨m,hm,q1,q2⟩
    . exact .inl q
    . right;rw [← e2,← eN2];have:=s.mono (m:=0) (k:=m) (Nat.zero_le _) (by omega);have:=s.mono (m:=m+1) (k:=ops.size) (by omega) (Nat.le_refl _);omega
  . intro b hb hr;have hnone:ρ2 b=none:=by
     cases z:ρ2 b with
     | none=>rfl
     | some l=>
      rcases inv.dom b l z with q | ⟨m,hm,q1,q2⟩
      . rw [hr] at q; cases q
      . have:=s.mono (m:=0) (k:=m) (Nat.zero_le _) (by omega);rw [e2] at this;omega
    have all:∀ m,m<=ops.size->(st m).2.get b=h.get b:=by
     intro m;induction m with
     | zero=>intro _; rw [e2]
     | succ m ih=>
      intro hm;have hle:=s.mono (m:=0) (k:=m) (Nat.zero_le _) (by omega);rw [e2] at hle;rw [inv.junk m b (by omega) (by omega) hnone];exact ih (by omega)
    rw [← eN2];exact all ops.size (Nat.le_refl _)
 refine ⟨t2,w2,ρ2,inv.size,λt=>?_,hH.toH hT pre.heap,hT,hsteps.trans (.one zhW)⟩;rw [← eN1,← efr];exact inv.frame t
end Go.Ai
/- An abstract interpreter for the model's code: sound,and steady in its fuel. -/
namespace Go.Ai
open Option renaming bind->Zb,bind_some->Zs
theorem znT {T:Tab} {P:Program} {base:Nat} (ok:T.Ok P) (n:Nat):RunOk P base (aexec T n):=
 zoB ok (zuJ ok) zjQ zjP n
theorem zlD {T:Tab} {P:Program} {base:Nat} (ok:T.Ok P) {n:Nat} {f:FuncId} {args:List ze} {h:za} {r:zjC} {h':za} (hl:zeq T (aexec T n) f args h=some (r,h')) {ρ:Emb} {w:World} {args':Array Value}
 (ha:zcm ρ args args'.toList) (hr:zeJ base ρ h w):Calls P f args' w (zuH base ρ h w r h'):=
 (zuI ok (znT ok n) hl ha hr).2
theorem Tab.Ok.prim {T : Tab} {P : Program} (ok : T.Ok P) {g : FuncId} {p : List ze → Option ze} (h1 : ∃ F, P.funcs[g]? = some F ∧ (F.name == "runtime.NumGoroutine") = false ∧ F.body.isSome = true)
    (h2:∀ xs v,p xs=some v->∀ ρ (xs':Array Value) w,zcm ρ xs xs'.toList->Calls P g xs' w fun e w'=>∃ v',e=.returned v'∧zaf ρ v v'∧w'=w) :
    Tab.Ok { T with consts:=T.consts.set g p } P:=by
  refine ⟨ok.types,ok.funcs,ok.mixed,fun f q hq=>?_⟩;have hq:(T.consts.set g p).get f=some q:=hq;rw [Tr.get_set] at hq;by_cases e:f=g
  · rw [if_pos e] at hq;cases hq;subst e;refine ⟨h1,fun xs v hv ρ xs' w hx=>(h2 xs v hv ρ xs' w hx).mono fun e w' he=>?_⟩;obtain ⟨v',a1,a2,rfl⟩:=he;exact ⟨v',a1,a2,Nat.le_refl _,fun _ _=>rfl,rfl,rfl,rfl⟩
  · rw [if_neg e] at hq;exact ok.consts f q hq
def Runner.Le (a b:Runner):Prop:=∀ c fr h r,a c fr h=some r->b c fr h=some r
def Caller.Le (a b:Caller):Prop:=∀ f as h r,a f as h=some r->b f as h=some r
section
variable {T:Tab}
theorem zlE {a b:Caller} (h:Caller.Le a b) {ev:Operand->ze} {o:Op} {hp:za} {r:zjC×za} (hl:astep T a ev o hp=some r):astep T b ev o hp=some r:=by
 unfold astep at hl ⊢;split at hl
 . rename_i e; exact hl
 . rename_i e; exact h _ _ _ _ hl
 . cases hl
theorem zlF {a b:Caller} (h:Caller.Le a b) {ops:List Oper}:∀ (rest:List Oper) (fr:zi) (hp:za) (r:zaH×zi×za),aops T a ops rest fr hp=some r->aops T b ops rest fr hp=some r
 | [],_,_,_,hl=>hl
 | o::rest,fr,hp,r,hl=>by
  simp only [aops] at hl ⊢;split at hl
  . split at hl
    . rename_i e;rw [zlE h e];exact zlF h rest _ _ _ hl
    . rename_i e;rw [zlE h e];exact hl
    . cases hl
  . exact zlF h rest _ _ _ hl
  . cases hl
theorem zh2 {a b:Caller} (h:Caller.Le a b) {ops:List Oper}:∀ (rest:List Oper) (i:Nat) (done:List (Nat×Foot)) (fr:zi) (hp:za) (r:zi×za),adraw T a ops rest i done fr hp=some r->adraw T b ops rest i done fr hp=some r
 | [],_,_,_,_,_,hl=>hl
 | o::rest,i,done,fr,hp,r,hl=>by
  simp only [adraw] at hl ⊢;split at hl
  . split at hl
    . rename_i e;rw [zlE h e];cases hf:zcc ops i _ done with
      | false=>rw [hf] at hl; cases hl
      | true=>
       rw [hf] at hl;simp only [cond_true] at hl ⊢;simp only [hf,cond_true];exact zh2 h rest _ _ _ _ _ hl
    . cases hl
  . exact zh2 h rest _ _ _ _ _ hl
  . cases hl
theorem zpy {a b:Runner} (h:Runner.Le a b) {f:FuncId} {as:List ze} {hp:za} {r:zjC×za} (hl:zeq T a f as hp=some r):zeq T b f as hp=some r:=by
 unfold zeq at hl ⊢;split at hl
 . rename_i F hF;cases hb:Nat.blt F.ntmps as.length with
   | true=>rw [hb] at hl; cases hl
   | false=>
    rw [hb] at hl;simp only [cond_false] at hl ⊢;split at hl
    . rename_i c hc;split at hl<;>first | (rename_i e; simp only [h _ _ _ _ e]; exact hl) | cases hl
    . cases hl
 . cases hl
theorem zqx {a b:Runner} (h:Runner.Le a b) {l:Nat} {as:List ze} {hp:za} {r:zjC×za} (hl:around a l as hp=some r):around b l as hp=some r:=by
 unfold around at hl ⊢;split at hl
 . rename_i L hL;split at hl
   . rename_i hc;rw [if_pos hc];split at hl
     . rename_i e;simp only [h _ _ _ _ e];split at hl
       . rename_i L1 hL1;split at hl
         . rename_i hr;rw [if_pos hr];split at hl<;>first | (rename_i e; simp only [h _ _ _ _ e]; exact hl) | cases hl
         . cases hl
       . cases hl
     . cases hl
   . cases hl
 . cases hl
theorem zgv {a b:Runner} (h:Runner.Le a b):Caller.Le (acall T a) (acall T b):=by
 intro f as hp r hl;unfold acall at hl ⊢;split at hl
 . split at hl
   . exact hl
   . exact zpy h hl
 . exact zqx h hl
 . cases hl
theorem zmO:∀ n,Runner.Le (aexec T n) (aexec T (n+1))
 | 0=>by intro c fr h r hl; simp [aexec] at hl
 | n+1=>by
  have ih:=zmO n;have ihc:=zgv (T:=T) ih;intro c fr h r hl;cases c with
  | skip=>exact hl
  | label l=>exact hl
  | region id ops draw=>
   rw [aexec] at hl ⊢;cases draw with
   | true=>
    simp only [if_true] at hl ⊢;split at hl
    ·rename_i e;simp only [zh2 ihc _ _ _ _ _ _ e];exact hl
    ·cases hl
   | false=>
    simp only [Bool.false_eq_true,if_false] at hl ⊢;exact zlF ihc _ _ _ _ hl
  | seq x y=>
   rw [aexec] at hl ⊢;cases e:aexec T n x fr h with
   | none=>rw [e] at hl; cases hl
   | some q=>
    obtain ⟨ex,fr',h'⟩:=q;rw [ih _ _ _ _ e];rw [e] at hl;cases ex<;>first | exact hl | exact ih _ _ _ _ hl
  | cond c x y=>
   rw [aexec] at hl ⊢;split at hl
   ·rename_i t e;exact ih _ _ _ _ hl
   ·cases hl
  | block id c=>
   rw [aexec] at hl ⊢;cases e:aexec T n c fr h with
   | none=>rw [e] at hl; cases hl
   | some q=>
    rw [ih _ _ _ _ e];rw [e] at hl;exact hl
  | loop c=>
   rw [aexec] at hl ⊢;cases e:aexec T n c fr h with
   | none=>rw [e] at hl; cases hl
   | some q=>
    obtain ⟨ex,fr',h'⟩:=q;rw [ih _ _ _ _ e];rw [e] at hl;cases ex<;>first | exact hl | exact ih _ _ _ _ hl
  | rangeFunc f params assign body=>
   rw [aexec] at hl ⊢;split at hl<;>first | (rename_i e; simp only [ihc _ _ _ _ e]; exact hl) | cases hl
  | exit id=>exact hl
  | scope c=>
   rw [aexec] at hl ⊢;cases e:aexec T n c fr h with
   | none=>rw [e] at hl; cases hl
   | some q=>
    rw [ih _ _ _ _ e];rw [e] at hl;exact hl
  | goto l=>exact hl
  | ret=>exact hl
  | refuse _=>simp [aexec] at hl
theorem zdI {n m:Nat} (h:n<=m):Runner.Le (aexec T n) (aexec T m):=by
  induction m with
  | zero=>
      have:n=0:=by omega
      subst this; exact λ_ _ _ _ q=>q
  | succ m ih=>
    by_cases e:n=m+1
    · subst e; exact λ_ _ _ _ q=>q
    · exact λc fr hp r q=>zmO m c fr hp r (ih (by omega) c fr hp r q)
end
end Go.Ai
/- An abstract interpreter for the model's code: its runs,told by what they come to. -/
namespace Go.Ai
open Option renaming bind->Zb,bind_some->Zs
section
variable (T:Tab)
def Run (c:Code) (fr:zi) (h:za) (Q:zaH->zi->za->Prop):Prop:=∃ n e fr' h',aexec T n c fr h=some (e,fr',h')/\Q e fr' h'
def Ops (ops rest:List Oper) (fr:zi) (h:za) (Q:zaH->zi->za->Prop):Prop:=∃ n e fr' h',aops T (acall T (aexec T n)) ops rest fr h=some (e,fr',h')/\Q e fr' h'
def Draw (ops rest:List Oper) (i:Nat) (done:List (Nat×Foot)) (fr:zi) (h:za) (Q:zi->za->Prop):Prop:=∃ n fr' h',adraw T (acall T (aexec T n)) ops rest i done fr h=some (fr',h')/\Q fr' h'
def zja (f:ze) (vs:List ze) (h:za) (Q:zjC->za->Prop):Prop:=∃ n r h',acall T (aexec T n) f vs h=some (r,h')/\Q r h'
def zkD (g:FuncId) (vs:List ze) (h:za) (Q:zjC->za->Prop):Prop:=∃ n r h',zeq T (aexec T n) g vs h=some (r,h')/\Q r h'
variable {T}
variable {fr:zi} {h:za} {Q:zaH->zi->za->Prop}
theorem Run.mono {c:Code} {Q Q':zaH->zi->za->Prop} (r:Run T c fr h Q) (hq:∀ e fr' h',Q e fr' h'->Q' e fr' h'):Run T c fr h Q':=
 let ⟨n,e,fr',h',a,b⟩:=r; ⟨n,e,fr',h',a,hq _ _ _ b⟩
theorem zoE (q:Q .normal fr h):Run T .skip fr h Q:=⟨1,_,_,_,rfl,q⟩
theorem zqy {l:Nat} (q:Q .normal fr h):Run T (.label l) fr h Q:=⟨1,_,_,_,rfl,q⟩
theorem zoF {id:Nat} (q:Q (.exit id) fr h):Run T (.exit id) fr h Q:=⟨1,_,_,_,rfl,q⟩
theorem zuK (q:Q .ret fr h):Run T .ret fr h Q:=⟨1,_,_,_,rfl,q⟩
def zzk (T:Tab) (b:Code) (Q:zaH->zi->za->Prop) (e:zaH) (fr:zi) (h:za):Prop:=
 match e with
 | .normal=>Run T b fr h Q
 | e=>Q e fr h
theorem zuL {a b:Code} (r:Run T a fr h (zzk T b Q)):Run T (.seq a b) fr h Q:=by
 obtain ⟨n,e,fr',h',h1,h2⟩:=r;cases e with
 | normal=>
  obtain ⟨m,e2,fr2,hh2,h3,h4⟩:=h2;refine ⟨max n m+1,e2,fr2,hh2, ?_,h4⟩;rw [aexec,zdI (Nat.le_max_left n m) _ _ _ _ h1];exact zdI (Nat.le_max_right n m) _ _ _ _ h3
 | exit id=>exact ⟨n+1,_,_,_,by rw [aexec,h1],h2⟩
 | goto l=>exact ⟨n+1,_,_,_,by rw [aexec,h1],h2⟩
 | ret=>exact ⟨n+1,_,_,_,by rw [aexec,h1],h2⟩
 | pan v=>exact ⟨n+1,_,_,_,by rw [aexec,h1],h2⟩
theorem zsD {c:Operand} {a b:Code} {t:Bool} (hc:fr.op c=.bool t) (r:Run T (if t then a else b) fr h Q):Run T (.cond c a b) fr h Q:=by
 obtain ⟨n,e,fr',h',h1,h2⟩:=r;exact ⟨n+1,e,fr',h',by rw [aexec,hc]; exact h1,h2⟩
def zoG (id:Nat) (Q:zaH->zi->za->Prop) (e:zaH) (fr:zi) (h:za):Prop:=
 match e with
 | .exit id'=>if id'=id then Q .normal fr h else Q (.exit id') fr h
 | e=>Q e fr h
theorem zqz {id:Nat} {c:Code} (r:Run T c fr h (zoG id Q)):Run T (.block id c) fr h Q:=by
 obtain ⟨n,e,fr',h',h1,h2⟩:=r;cases e with
 | exit id'=>
  by_cases q:id'=id
  . subst q;refine ⟨n+1,.normal,fr',h',by rw [aexec,h1]; simp,by simpa [zoG] using h2⟩
  . refine ⟨n+1,.exit id',fr',h',by rw [aexec,h1]; simp [q],by simpa [zoG,q] using h2⟩
 | normal=>exact ⟨n+1,_,_,_,by rw [aexec,h1],h2⟩
 | goto l=>exact ⟨n+1,_,_,_,by rw [aexec,h1],h2⟩
 | ret=>exact ⟨n+1,_,_,_,by rw [aexec,h1],h2⟩
 | pan v=>exact ⟨n+1,_,_,_,by rw [aexec,h1],h2⟩
theorem zqA {c:Code} (r:Run T c fr h Q) (hq:∀ l fr' h',¬ Q (.goto l) fr' h'):Run T (.scope c) fr h Q:=by
 obtain ⟨n,e,fr',h',h1,h2⟩:=r;cases e with
 | goto l=>exact absurd h2 (hq _ _ _)
 | normal=>exact ⟨n+1,_,_,_,by rw [aexec,h1],h2⟩
 | exit l=>exact ⟨n+1,_,_,_,by rw [aexec,h1],h2⟩
 | ret=>exact ⟨n+1,_,_,_,by rw [aexec,h1],h2⟩
 | pan v=>exact ⟨n+1,_,_,_,by rw [aexec,h1],h2⟩
theorem zpz {id:Nat} {ops:Array Oper} (r:Ops T ops.toList ops.toList fr h Q):Run T (.region id ops false) fr h Q:=by
 obtain ⟨n,e,fr',h',h1,h2⟩:=r;exact ⟨n+1,e,fr',h',by rw [aexec]; exact h1,h2⟩
theorem zsE {id:Nat} {ops:Array Oper} (r:Draw T ops.toList ops.toList 0 [] fr h (Q .normal)):Run T (.region id ops true) fr h Q:=by
 obtain ⟨n,fr',h',h1,h2⟩:=r;exact ⟨n+1,.normal,fr',h',by rw [aexec]; simp [h1],h2⟩
theorem zuM {ops:List Oper} (q:Q .normal fr h):Ops T ops [] fr h Q:=⟨0,_,_,_,rfl,q⟩
theorem zuN {ops rest:List Oper} {o:Oper} {v:ze} {h':za} (hw:awanted ops fr o.guard=some true) (ha:aop T fr.op h o.op=some (.val v h')) (r:Ops T ops rest (putDst fr o.dst v) h' Q):Ops T ops (o::rest) fr h Q:=by
 obtain ⟨n,e,fr',h2,h3,h4⟩:=r;exact ⟨n,e,fr',h2,by simp only [aops,hw,astep,ha]; exact h3,h4⟩
theorem zsF {ops rest:List Oper} {o:Oper} (hw:awanted ops fr o.guard=some false) (r:Ops T ops rest (putDst fr o.dst unit) h Q):Ops T ops (o::rest) fr h Q:=by
 obtain ⟨n,e,fr',h2,h3,h4⟩:=r;exact ⟨n,e,fr',h2,by simp only [aops,hw]; exact h3,h4⟩
theorem zsG {ops rest:List Oper} {o:Oper} {f:ze} {vs:List ze} (hw:awanted ops fr o.guard=some true) (ha:aop T fr.op h o.op=some (.call f vs))
 (r:zja T f vs h λr h'=>∃ v,r=.ret v/\Ops T ops rest (putDst fr o.dst v) h' Q):Ops T ops (o::rest) fr h Q:=by
 obtain ⟨n,r,h1,h2,v,rfl,m,e,fr',h3,h4,h5⟩:=r;refine ⟨max n m,e,fr',h3, ?_,h5⟩;have c1:=zgv (T:=T) (zdI (Nat.le_max_left n m)) _ _ _ _ h2;have c2:=zlF (T:=T) (zgv (zdI (Nat.le_max_right n m))) _ _ _ _ h4;simp only [aops,hw,astep,ha,c1];exact c2
theorem zqB {ops:List Oper} {j d:Nat} {want b:Bool} (hd:(ops[j]?).bind (λ(o:Oper)=>o.dst)=some d) (hv:fr.ev d=.bool b):awanted ops fr (some (j,want))=some (b==want):=by
 unfold awanted;simp only [hd,hv]
theorem zoH {ops:List Oper} {i:Nat} {done:List (Nat×Foot)} {Q:zi->za->Prop} (q:Q fr h):Draw T ops [] i done fr h Q:=⟨0,_,_,rfl,q⟩
theorem zmP {ops rest:List Oper} {o:Oper} {i:Nat} {done:List (Nat×Foot)} {Q:zi->za->Prop} (hw:awanted ops fr o.guard=some false) (r:Draw T ops rest (i+1) done (putDst fr o.dst unit) h Q):Draw T ops (o::rest) i done fr h Q:=by
 obtain ⟨n,fr',h2,h3,h4⟩:=r;exact ⟨n,fr',h2,by simp only [adraw,hw]; exact h3,h4⟩
theorem zsH {ops rest:List Oper} {o:Oper} {i:Nat} {done:List (Nat×Foot)} {Q:zi->za->Prop} {v:ze} {h':za} {f:Foot} (hw:awanted ops fr o.guard=some true) (ha:aop T fr.op { h with wm:=h.next } o.op=some (.val v h'))
 (hf:foot fr.op o=f) (hr:f.rall=false) (hk:zcc ops i f done=true) (r:Draw T ops rest (i+1) ((i,f)::done) (putDst fr o.dst v) { h' with wm:=min h.wm h'.wm } Q):Draw T ops (o::rest) i done fr h Q:=by
 obtain ⟨n,fr',h2,h3,h4⟩:=r;refine ⟨n,fr',h2, ?_,h4⟩;have e:zfO (foot fr.op o) h h'=f:=by rw [hf]; unfold zfO; rw [hr]; rfl
 simp only [adraw,hw,astep,ha,e,hk,cond_true];exact h3
end
end Go.Ai