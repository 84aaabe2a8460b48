/- An abstract interpreter for the model's code: a call of a function value,be it a function or the body of a range over a function. -/
import Derived.Test.YtfamdelkpempgaaGreatW1
import Derived.Orders
set_option linter.unusedSimpArgs false
set_option linter.unusedVariables false
set_option linter.unusedSectionVars false
noncomputable section
open Option renaming some→Ob,none→Oe
open Bool renaming false→Oc,true→Od
open Option renaming bind->Zb,bind_some->Zs
namespace Go.Ai
section
variable {T:Tab} {P:Program} (ok:T.Ok P) {base:Nat}
include ok in
theorem zrT {run:Runner} (hrun:RunOk P base run) {g:FuncId} {args:List zb} {h:za} {r:zhT} {h':za} (hl:zeL T run g args h=Ob (r,h')) {V:Emb} {w:World} {args':Array Value}
 (ha:zcB V args args'.toList) (hr:zeH base V h w) (c:Frame) (cs:List Frame) :
 ∃ r' w' V',znn V' r r'/\zeH base V' h' w'/\Trans V h w V' h' w'/\Steps P (lone (Frame.enter P g args' .normal) (c::cs) w) (lone (r'.frame c) cs w'):=by
 obtain ⟨_,hcalls⟩:=zwY ok hrun hl ha hr;obtain ⟨e,w',fr,⟨V',h1,h2,h3⟩,hcomes,hfn,hleave⟩:=hcalls (c::cs);rcases h3 with ⟨v,v',rfl,rfl,hv⟩ | ⟨v,v',rfl,rfl,hv⟩
 . exact ⟨.ret v',w',V',hv,h1,h2,Steps.trans hcomes (.one (step_leave_returned hleave))⟩
 . exact ⟨.pan v',w',V',hv,h1,h2,Steps.trans hcomes (.one (step_leave_panicked hleave))⟩
theorem ziU {V:Emb} {h:za} {w:World} (hr:zeH base V h w) {b:Nat} {l:Loc} {L:zic} (hb:V b=Ob l) (hg:h.get b=Ob (.loop L)):base<=l.c/\∃ L',w.heap[l.c]?=Ob (.loop L')/\zgG V L L':=by
 have hblk:=hr.blk b l hb;rw [hg] at hblk;exact hblk
theorem zmb {V:Emb} {h:za} {w:World} (hr:zeH base V h w) {b:Nat} {l:Loc} {L0 L:zic} {L':Loop} (hb:V b=Ob l) (hg:h.get b=Ob (.loop L0)) (hs:zj9 L0 L) (hL:zgG V L L') :
 zeH base V (h.set b (.loop L)) { w with heap:=w.heap.setIfInBounds l.c (.loop L') }/\Trans V h w V (h.set b (.loop L)) { w with heap:=w.heap.setIfInBounds l.c (.loop L') }:=by
 have hlt:=hr.clt b l hb;obtain ⟨hbase,_⟩:=ziU hr hb hg;have hh:=zfO hr.toH0 hb (by unfold Owns; rw [hg]; trivial) (.loop L) { w with heap:=w.heap.setIfInBounds l.c (.loop L') } Ol (λk hk=>by simp [Array.getElem?_setIfInBounds,Ne.symm hk]) rfl rfl rfl
  ⟨hbase,L',by simp [Array.getElem?_setIfInBounds,hlt],hL⟩ (λL1 h1=>⟨L,rfl,by rw [hg] at h1; cases h1; exact hs⟩)
 exact ⟨hh.1.toH hh.2 hr,hh.2⟩
theorem zii {V:Emb}:∀ (ps:List Nat) (vs:List zb) (vs':List Value) (fr:zg) (tmps:Array Value),zcB V vs vs'->(∀ p∈ps,p<tmps.size)->ziL V fr tmps ->
    ziL V (zdr ps vs fr) ((ps.zip vs').foldl (λtmps (x:Nat×Value)=>tmps.setIfInBounds x.1 x.2) tmps)/\((ps.zip vs').foldl (λtmps (x:Nat×Value)=>tmps.setIfInBounds x.1 x.2) tmps).size=tmps.size
  | [],vs,vs',fr,tmps,_,_,hf=>by cases vs<;>cases vs'<;>exact ⟨hf,rfl⟩
  | p::ps,[],vs',fr,tmps,hv,_,hf=>by rw [hv.nil_inv]; exact ⟨hf,rfl⟩
  | p::ps,v::vs,vs',fr,tmps,hv,hp,hf=>by
    obtain ⟨v',us',rfl,h1,h2⟩:=hv.cons_inv;have:=zii ps vs us' (Tr.set fr p v) (tmps.setIfInBounds p v') h2 (λq hq=>by simpa using hp q (List.mem_cons_of_mem _ hq)) (hf.put (hp p (List.mem_cons_self ..)) h1);simp only [zdr,List.zip_cons_cons,List.foldl_cons];exact ⟨this.1,by rw [this.2]; simp⟩
theorem zfP {w:World} {l:Nat} {L:Loop} (hg:w.heap[l]?=Ob (.loop L)):(Instr.getLoop l).run P w=.ok L w:=by
 simp [Instr.getLoop,getObj,Sem.run,hg]
theorem zhW {w:World} {l:Nat} {L L2:Loop} (hg:w.heap[l]?=Ob (.loop L)):(setObj l (.loop L2)).run P w=.ok () { w with heap:=w.heap.setIfInBounds l (.loop L2) }:=by
 simp [setObj,Sem.run,hg]
theorem znq {w:World} {l:Nat} {L:Loop} (hg:w.heap[l]?=Ob (.loop L)) (jump:Option Code) :
 (Instr.endRound l jump).run P w=.ok (.bool jump.isNone) { w with heap:=w.heap.setIfInBounds l (.loop { L with state:=if jump.isNone then .ready else .done,pending:=jump }) }:=by
 simp only [Instr.endRound,Sem.run_bind,zfP hg,Result.andThen_ok,zhW hg,Sem.run_pure]
theorem zus {fn:FuncId} {l:Nat} {tmps:Array Value} {todo:List Item} {c:Frame} {cs:List Frame} {w:World} {L:Loop} {jump:Option Code} (hg:w.heap[l]?=Ob (.loop L))
 (hj:(todo=[]/\jump=Oe)\/(∃ k,todo=.code .ret::k/\jump=Ob .ret)\/(∃ id k,todo=.code (.exit id)::k/\exitTo id k=Oe/\jump=Ob (.exit id))) :
 step P (lone (fat fn .normal (Ob l) tmps [] todo) (c::cs) w)=.next (lone (c.finish (.bool jump.isNone)) cs { w with heap:=w.heap.setIfInBounds l (.loop { L with state:=if jump.isNone then .ready else .done,pending:=jump }) }):=by
 have hend:=znq (P:=P) hg jump;refine step_lone_go ?_;rcases hj with ⟨rfl,rfl⟩ | ⟨k,rfl,rfl⟩ | ⟨id,k,rfl,he,rfl⟩
 . simp [stepG,stepG.exec,fat,Sem.runT_eq,hend,doReturn]
 . simp [stepG,stepG.exec,fat,Sem.runT_eq,hend,doReturn]
 . simp [stepG,stepG.exec,fat,Sem.runT_eq,hend,doReturn,he]
theorem zrU {run:Runner} (hrun:RunOk P base run) {l:Nat} {args:List zb} {h:za} {r:zhT} {h':za} (hl:around run l args h=Ob (r,h')) {V:Emb} {w:World} {args':Array Value} {loc:Loc}
    (hb:V l=Ob loc) (ha:zcB V args args'.toList) (hr:zeH base V h w) :
    ∃ nx s,(Instr.yield loc.c args').run P w=.ok nx w/\ziQ P nx=Ob s/\∀ (c:Frame) (cs:List Frame),
      ∃ r' w' V',znn V' r r'/\zeH base V' h' w'/\Trans V h w V' h' w'/\Steps P (lone s (c::cs) w) (lone (r'.frame c) cs w'):=by
  unfold around at hl;split at hl
  case h_2=>cases hl
  rename_i L hg;split at hl
  case isFalse=>cases hl
  rename_i hcond;obtain ⟨hstate,hargs⟩:=hcond;obtain ⟨hbase,L',hg',hL⟩:=ziU hr hb hg;have hasz:args'.size=L'.params.size:=by
    have h1:=ha.1;have h2:=congrArg List.length hL.params;simp at h1 h2;omega
  let tm:=(L'.params.zip args').foldl (λtmps (x:Nat×Value)=>tmps.setIfInBounds x.1 x.2) L'.tmps
  have htm:tm=(L.params.zip args'.toList).foldl (λtmps (x:Nat×Value)=>tmps.setIfInBounds x.1 x.2) L'.tmps:=by
    show (L'.params.zip args').foldl _ _=_;rw [← hL.params,← Array.foldl_toList,Array.toList_zip]
  obtain ⟨hfr,hsz⟩:=zii L.params args args'.toList L.fr L'.tmps ha hL.okP hL.frame;rw [← htm] at hfr hsz;refine ⟨.round loc.c L'.fn tm L'.assign L'.body,Frame.round loc.c L'.fn tm L'.assign L'.body .normal, ?_,rfl,λc cs=>?_⟩
  · simp only [Instr.yield,Sem.run_bind,zfP hg',Result.andThen_ok,hasz,ne_eq,not_true_eq_false,if_false,Sem.run_pure];rfl
  have hstart:Frame.round loc.c L'.fn tm L'.assign L'.body .normal=fat L'.fn .normal (Ob loc.c) tm [] [.code L.assign,.beginRound,.code L.body]:=by
    simp [Frame.round,fat,hL.assign,hL.body]
  rw [hstart];have hrnd:zrQ V h (Ob loc.c):=λl' e=>by cases e; exact ⟨l,loc,L,hb,rfl,hg⟩
  have hpre:Pre base V h w [] (Ob loc.c) L'.tmps.size (zdr L.params args L.fr) tm:=⟨hsz,hfr,hr,(λd hd=>by cases hd),.nil,hrnd,.inr rfl⟩;cases h1:run L.assign (zdr L.params args L.fr) h with
  | none=>rw [h1] at hl; simp at hl
  | some out1=>
    obtain ⟨e1,fr1,ha1⟩:=out1;rw [h1] at hl;cases e1<;>simp only at hl<;>(try (cases hl; done));obtain ⟨e',tmps1,ds1,w1,V1,post1,hds1,hland1⟩:=hrun _ _ _ _ _ _ h1 _ hL.okA V w [] (Ob loc.c) tm hpre L'.fn .normal [.beginRound,.code L.body] (c::cs) _ (.inl rfl);have hex:=post1.exit;cases e'<;>try exact hex.elim
    have hds1':ds1=[]:=hds1.resolve_left Ol;subst hds1'
    -- the loop is busy
    split at hl
    case h_2=>cases hl
    rename_i L1 hg1;split at hl
    case isFalse=>cases hl
    rename_i hready;have hb1:=post1.trans.ext _ _ hb;obtain ⟨_,hga,hs1⟩:=post1.trans.loops l loc L hb hg;rw [hg1] at hga; cases hga;obtain ⟨hbase1,L1',hg1',hL1⟩:=ziU post1.heap hb1 hg1;have hLb:zgG V1 { L with state:=.busy } { L1' with state:=.busy }:=
      ⟨rfl,λq=>absurd rfl q,by rw [← hs1.params]; exact hL1.params,by rw [← hs1.assign]; exact hL1.assign,by rw [← hs1.body]; exact hL1.body,by rw [← hs1.fr]; exact hL1.frame,by rw [← hs1.params]; exact hL1.okP,by rw [← hs1.assign]; exact hL1.okA,by rw [← hs1.body]; exact hL1.okB⟩
    have hs1':zj9 L1 { L with state:=.busy }:=⟨hs1.fr.symm,hs1.params.symm,hs1.assign.symm,hs1.body.symm⟩;obtain ⟨hr2,ht2⟩:=zmb post1.heap hb1 hg1 hs1' hLb;have hbegin:step P (lone (fat L'.fn .normal (Ob loc.c) tmps1 [] [.beginRound,.code L.body]) (c::cs) w1) =
        .next (lone (fat L'.fn .normal (Ob loc.c) tmps1 [] [.code L.body]) (c::cs) { w1 with heap:=w1.heap.setIfInBounds loc.c (.loop { L1' with state:=.busy }) }):=by
      have hst1:L1'.state=.ready:=by rw [hL1.state]; exact hready
      have hbr:(Instr.beginRound loc.c).run P w1=.ok () { w1 with heap:=w1.heap.setIfInBounds loc.c (.loop { L1' with state:=.busy }) }:=by
        simp only [Instr.beginRound,Sem.run_bind,zfP hg1',Result.andThen_ok,zhW hg1',hst1,Sem.run_pure]
      refine step_lone_go ?_;simp [stepG,stepG.exec,stepG.apply,fat,Sem.runT_eq,hbr,Frame.finish]
    have hpre2:Pre base V1 (ha1.set l (.loop { L with state:=.busy })) { w1 with heap:=w1.heap.setIfInBounds loc.c (.loop { L1' with state:=.busy }) } [] (Ob loc.c) L'.tmps.size fr1 tmps1:=
      ⟨post1.size,post1.frame,hr2,(λd hd=>by cases hd),.nil,(hrnd.trans post1.trans).trans ht2,.inr rfl⟩
    cases h2:run L.body fr1 (ha1.set l (.loop { L with state:=.busy })) with
    | none=>rw [h2] at hl; simp at hl
    | some out2=>
      obtain ⟨e2,fr2,ha2⟩:=out2;rw [h2] at hl;obtain ⟨e'',tmps2,ds2,w2,V2,post2,hds2,hland2⟩:=hrun _ _ _ _ _ _ h2 _ hL.okB V1 _ [] (Ob loc.c) tmps1 hpre2 L'.fn .normal [] (c::cs) _ (.inl rfl);have hds2':ds2=[]:=hds2.resolve_left Ol;subst hds2';have hex2:=post2.exit;have hb2:=post2.trans.ext _ _ hb1;obtain ⟨L2,hg2,hs2⟩:=post2.trans.loops l loc { L with state:=.busy } hb1 (by rw [za.get_set,if_pos rfl]);obtain ⟨hbase2,L2',hg2',hL2⟩:=ziU post2.heap hb2 hg2;have tr12:Trans V h w V2 ha2 w2:=(post1.trans.trans ht2).trans post2.trans;have sall:Steps P (lone (fat L'.fn .normal (Ob loc.c) tm [] [.code L.assign,.beginRound,.code L.body]) (c::cs) w) (lone (fat L'.fn .normal (Ob loc.c) tmps1 [] [.code L.body]) (c::cs) { w1 with heap:=w1.heap.setIfInBounds loc.c (.loop { L1' with state:=.busy }) }):=
        Steps.trans hland1 (.one hbegin)
      -- the end of a round
      have fin:∀ (jump:Option Code) (todo:List Item),((todo=[]/\jump=Oe)\/(∃ k,todo=.code .ret::k/\jump=Ob .ret)\/(∃ id k,todo=.code (.exit id)::k/\exitTo id k=Oe/\jump=Ob (.exit id))) ->
          Steps P (lone (fat L'.fn .normal (Ob loc.c) tmps1 [] [.code L.body]) (c::cs) { w1 with heap:=w1.heap.setIfInBounds loc.c (.loop { L1' with state:=.busy }) }) (lone (fat L'.fn .normal (Ob loc.c) tmps2 [] todo) (c::cs) w2) ->
          ∃ r' w' V',znn V' (.ret (.bool jump.isNone)) r'/\zeH base V' (ha2.set l (.loop { L with state:=if jump.isNone then .ready else .done,pending:=jump })) w' /\
            Trans V h w V' (ha2.set l (.loop { L with state:=if jump.isNone then .ready else .done,pending:=jump })) w' /\
            Steps P (lone (fat L'.fn .normal (Ob loc.c) tm [] [.code L.assign,.beginRound,.code L.body]) (c::cs) w) (lone (r'.frame c) cs w'):=by
        intro jump todo hj hst;have hLe:zgG V2 { L with state:=if jump.isNone then .ready else .done,pending:=jump } { L2' with state:=if jump.isNone then .ready else .done,pending:=jump }:=
          ⟨rfl,λ_=>rfl,by rw [show L.params=L2.params from hs2.params.symm]; exact hL2.params,by rw [show L.assign=L2.assign from hs2.assign.symm]; exact hL2.assign,by rw [show L.body=L2.body from hs2.body.symm]; exact hL2.body,
            by rw [show L.fr=L2.fr from hs2.fr.symm]; exact hL2.frame,by rw [show L.params=L2.params from hs2.params.symm]; exact hL2.okP,by rw [show L.assign=L2.assign from hs2.assign.symm]; exact hL2.okA,by rw [show L.body=L2.body from hs2.body.symm]; exact hL2.okB⟩
        obtain ⟨hr3,ht3⟩:=zmb post2.heap hb2 hg2 (L:={ L with state:=if jump.isNone then .ready else .done,pending:=jump }) ⟨hs2.fr.symm,hs2.params.symm,hs2.assign.symm,hs2.body.symm⟩ hLe;exact ⟨.ret (.bool jump.isNone),_,V2,.bool _,hr3,tr12.trans ht3,(sall.trans hst).trans (.one (zus hg2' hj))⟩
      cases e2<;>simp only at hl<;>(try (cases hl; done))
      · cases hl;cases e''<;>try exact hex2.elim
        exact fin Oe [] (.inl ⟨rfl,rfl⟩) hland2
      · rename_i id;cases hl;cases e''<;>try exact hex2.elim
        rename_i id';have:id=id':=hex2;subst this;obtain ⟨k2,hk,hst⟩:=hland2;exact fin (Ob (.exit id)) _ (.inr (.inr ⟨id,k2,rfl,by rw [hk]; rfl,rfl⟩)) hst
      · cases hl;cases e''<;>try exact hex2.elim
        obtain ⟨k2,hst⟩:=hland2;exact fin (Ob .ret) _ (.inr (.inl ⟨k2,rfl,rfl⟩)) hst
      · rename_i v;cases hl;cases e''<;>try exact hex2.elim
        rename_i v';obtain ⟨k2,hk,hst⟩:=hland2;refine ⟨.pan v',w2,V2,hex2,post2.heap,tr12,(sall.trans hst).trans (.one (step_lone_go ?_))⟩;have hcat:Frame.catches P { fat L'.fn .normal (Ob loc.c) tmps2 [] k2 with mode:=.panicking [{ v:=v',recovered:=Oc }] }=Oc:=by
          unfold Frame.catches;cases k2 with
          | nil=>simp [fat]
          | cons x k2=>cases x<;>first | (simp [notCall] at hk; done) | simp [fat]
        simp only [fat] at hcat;simp [stepG,fat,unwind,hcat,zua.frame]
include ok in
theorem zut {run:Runner} (hrun:RunOk P base run):zlx P base (acall T run):=by
 intro f args h r h' hl V w f' args' hf ha hr;unfold acall at hl;split at hl
 . rename_i g first captured
   cases hf with
   | func _ fn' _ _ f2 c2 hfn hfl hcl hfs hcs=>
   rcases hfn with ⟨_,_,e,_⟩ | ⟨g',e,rfl⟩
   . cases e
   cases e;have h1:zcB V first f2.toList:=⟨by simpa using hfl,λi v v' a b=>hfs i v v' a (by simpa using b)⟩
   have h2:zcB V captured c2.toList:=⟨by simpa using hcl,λi v v' a b=>hcs i v v' a (by simpa using b)⟩;have h3:zcB V (first++args++captured) ((f2++args')++c2).toList:=by
    simp only [Array.toList_append];exact (h1.append ha).append h2
   split at hl
   . rename_i p hp;cases hv:p (first++args++captured) with
     | none=>rw [hv] at hl; cases hl
     | some v=>
     rw [hv] at hl;cases hl;obtain ⟨⟨F,hF,hn,hb⟩,hcalls⟩:=ok.consts g p hp;refine ⟨.enter g ((f2++args')++c2),Frame.enter P g ((f2++args')++c2) .normal, ?_,rfl,λc cs=>?_⟩
     . simp only [Deferred.ofValue,Sem.run_bind,Sem.run_pure,Result.andThen_ok,invoke];exact zhb hF hn hb _ w
     . obtain ⟨e,w',fr,⟨v',rfl,k1,k2,k3,k4,k5,k6⟩,hcomes,hfn,hleave⟩:=hcalls _ v hv V _ w h3 (c::cs);refine ⟨.ret v',w',V,k1, ?_,.same k2 (λk hk _=>k3 k hk) k4 k5 k6,Steps.trans hcomes (.one (step_leave_returned hleave))⟩;refine ⟨⟨λb l hb=>Nat.lt_of_lt_of_le (hr.clt b l hb) k2,λb l hb=>(hr.blk b l hb).mono (.refl _) (k3 _ (hr.clt b l hb)),hr.inj,Nat.le_trans hr.base k2⟩,hr.lt⟩
   obtain ⟨⟨F,hF,hn,hb⟩,_⟩:=zwY ok hrun hl h3 hr;refine ⟨.enter g ((f2++args')++c2),Frame.enter P g ((f2++args')++c2) .normal, ?_,rfl,zrT ok hrun hl h3 hr⟩;simp only [Deferred.ofValue,Sem.run_bind,Sem.run_pure,Result.andThen_ok,invoke];exact zhb hF hn hb _ w
 . rename_i l first captured
   cases hf with
   | func _ fn' _ _ f2 c2 hfn hfl hcl hfs hcs=>
   rcases hfn with ⟨l1,l2,e,rfl,loc,hb,hc⟩ | ⟨g',e,_⟩
   case inr=>cases e
   cases e;subst hc;have h1:zcB V first f2.toList:=⟨by simpa using hfl,λi v v' a b=>hfs i v v' a (by simpa using b)⟩
   have h3:zcB V (first++args) (f2++args').toList:=by
    simp only [Array.toList_append];exact h1.append ha
   obtain ⟨nx,s,q1,q2,q3⟩:=zrU hrun hl hb h3 hr;refine ⟨nx,s, ?_,q2,q3⟩;simp only [Deferred.ofValue,Sem.run_bind,Sem.run_pure,Result.andThen_ok,invoke];exact q1
 . cases hl
end
def Keeps (h h':za):Prop:=h.next<=h'.next/\h'.wm<=h.wm/\∀ b,b<h.next->b<h'.wm->h'.get b=h.get b
def zfQ (call:Caller):Prop:=∀ f args h r h',call f args h=Ob (r,h')->Keeps h h'
def zgJ (run:Runner):Prop:=∀ c fr h e fr' h',run c fr h=Ob (e,fr',h')->Keeps h h'
section
variable {T:Tab} {P:Program} (ok:T.Ok P) {base:Nat}
def zwk (T:Tab) (P:Program) (base:Nat):Prop:=
 ∀ (call:Caller),zlx P base call->zfQ call->∀ (ops:Array Oper) (n:Nat),zrR n ops->zhU ops.toList 0=Od->ziO ops.toList ops.toList 0=Od ->
  ∀ (fr:zg) (h:za) (fr':zg) (h':za),adraw T call ops.toList ops.toList 0 [] fr h=Ob (fr',h') ->
   ∀ (V:Emb) (w:World) (ds:List Deferred) (rnd:Option Nat) (tmps:Array Value) (t:Nat),Pre base V h w ds rnd n fr tmps ->
    ∀ (fn:FuncId) (kind:CallKind) (k:List Item) (cs:List Frame),∃ tmps' w' V',tmps'.size=n/\ziL V' fr' tmps'/\zeH base V' h' w'/\Trans V h w V' h' w' /\
     Steps P (lone (fat fn kind rnd tmps ds (.inRegion ops (Region.schedule Od ops t)::k)) cs w) (lone (fat fn kind rnd tmps' ds k) cs w')
theorem zij {fn:FuncId} {tmps:Array Value} {params:Array Nat} {assign body:Code} (w:World) :
 (Instr.enterLoop fn tmps params assign body Oe).run P w=.ok (w.heap.size+1,[{ target:=.collected w.heap.size,args:=#[] }])
  { w with heap:=(w.heap.push (.deferred (Ob []))).push (.loop { state:=.ready,pending:=Oe,fn,tmps,params,assign,body,defers:=w.heap.size }) }:=by
 simp only [Instr.enterLoop,Sem.run_bind,run_newObj,Result.andThen_ok,Sem.run_pure,Array.size_push]
theorem zik {fn:FuncId} {tmps:Array Value} {params:Array Nat} {assign body:Code} (w:World) {l:Nat} {L:Loop} (hg:w.heap[l]?=Ob (.loop L)) :
 (Instr.enterLoop fn tmps params assign body (Ob l)).run P w=.ok (w.heap.size,[])
  { w with heap:=w.heap.push (.loop { state:=.ready,pending:=Oe,fn,tmps,params,assign,body,defers:=L.defers }) }:=by
 simp only [Instr.enterLoop,Sem.run_bind,zfP hg,Result.andThen_ok,Sem.run_pure,run_newObj]
theorem zeH.grow {V:Emb} {h:za} {w w':World} (hr:zeH base V h w) {o:Obj} (hw:w'.heap=w.heap.push o) (h1:w'.os=w.os) (h2:w'.tape=w.tape) (h3:w'.output=w.output):zeH base V h w'/\Trans V h w V h w':=by
 have hold:∀ k,k<w.heap.size->w'.heap[k]?=w.heap[k]?:=λk hk=>by rw [hw,Array.getElem?_push,if_neg J]
 have hsz:w'.heap.size=w.heap.size+1:=by rw [hw]; simp
 exact ⟨⟨⟨λb l hb=>by have:=hr.clt b l hb; omega,λb l hb=>(hr.blk b l hb).mono (.refl _) (hold _ (hr.clt b l hb)),hr.inj,by have:=hr.base; omega⟩,hr.lt⟩,
  .same J (λk hk _=>hold k hk) h1 h2 h3⟩
theorem znr {fn:FuncId} {kind:CallKind} {rnd:Option Nat} {tmps:Array Value} {ds mark:List Deferred} {k:List Item} {cs:List Frame} {w w1:World} {f:Operand} {params:Array Nat} {assign body:Code} {l:Nat} {nx:Next} {s:Frame}
 (he:(Instr.enterLoop fn tmps params assign body rnd).run P w=.ok (l,mark) w1)
 (hr:(do let d ← Deferred.ofValue (evT tmps f) #[.func (.yield l) #[] #[]]; invoke d.target d.args:Sem Next).run P w1=.ok nx w1) (hs:ziQ P nx=Ob s) :
 step P (lone (fat fn kind rnd tmps ds (.code (.rangeFunc f params assign body)::k)) cs w)=.next (lone s (fat fn kind rnd tmps (mark++ds) (.inRangeFunc l::k)::cs) w1):=by
 have hev:(fat fn kind rnd tmps (mark++ds) (.inRangeFunc l::k)).eval=evT tmps:=zjP ..;have hres:(do let d ← resolve (evT tmps) { callee:=.value f,args:=#[.const (.func (.yield l) #[] #[])],argTypes:=#[] } 0; invoke d.target d.args:Sem Next).run P w1=.ok nx w1:=by
  simpa [resolve,evT] using hr
 refine step_lone_go ?_;simp only [fat] at hev;simp only [stepG,stepG.exec,fat,Sem.runT_eq,he,hev];cases nx<;>simp [ziQ] at hs<;>subst hs<;>simp [stepG.apply,hres]
theorem zoO {w:World} {l:Nat} {L:Loop} (hg:w.heap[l]?=Ob (.loop L)) (hb:L.state≠.busy) :
 (Instr.endLoop l).run P w=.ok L.pending { w with heap:=w.heap.setIfInBounds l (.loop { L with state:=.exhausted }) }:=by
 have hb':(L.state==.busy)=Oc:=by simpa using hb
 simp only [Instr.endLoop,Sem.run_bind,zfP hg,Result.andThen_ok,hb',Bool.false_eq_true,if_false,Sem.run_pure,zhW hg]
theorem zoP {fn:FuncId} {kind:CallKind} {rnd:Option Nat} {tmps:Array Value} {ds:List Deferred} {k:List Item} {cs:List Frame} {w:World} {l:Nat} {L:Loop} (hg:w.heap[l]?=Ob (.loop L)) (hb:L.state≠.busy) :
 step P (lone (fat fn kind rnd tmps ds (.endRangeFunc l::k)) cs w)=.next (lone (fat fn kind rnd tmps ds ((L.pending.map Item.code).toList++k)) cs { w with heap:=w.heap.setIfInBounds l (.loop { L with state:=.exhausted }) }):=by
 have h:=zoO (P:=P) hg hb;refine step_lone_go ?_;simp [stepG,stepG.exec,fat,Sem.runT_eq,h]
include ok in
theorem zpN (hdraw:zwk T P base) (hkeep:∀ n,zgJ (aexec T n)) (hck:∀ run,zgJ run->zfQ (acall T run)):∀ n,RunOk P base (aexec T n)
  | 0=>by intro c fr h e fr' h' hl; simp [aexec] at hl
  | m+1=>by
    have ih:=zpN hdraw hkeep hck m;have hcall:=zut ok ih;intro c fr h e fr' h' hl n hco V w ds rnd tmps pre fn kind k cs x hx;have hxc:(∀ c',c≠.loop c')->x=.code c:=λhn=>hx.resolve_right (λ⟨c',e,_⟩=>hn c' e);cases c with
    | skip=>
      have hx':=hxc (λ_ q=>by cases q); subst hx';simp only [aexec] at hl; cases hl;exact ⟨.normal,tmps,ds,w,V,⟨trivial,pre.size,pre.frame,pre.heap,.refl _ _ _,pre.dsok,⟨[],rfl,by simp⟩,pre.dsnd⟩,pre.norm,Steps.one zwT⟩
    | label l=>
      have hx':=hxc (λ_ q=>by cases q); subst hx';simp only [aexec] at hl; cases hl;exact ⟨.normal,tmps,ds,w,V,⟨trivial,pre.size,pre.frame,pre.heap,.refl _ _ _,pre.dsok,⟨[],rfl,by simp⟩,pre.dsnd⟩,pre.norm,Steps.one zup⟩
    | exit id=>
      have hx':=hxc (λ_ q=>by cases q); subst hx';simp only [aexec] at hl; cases hl;exact ⟨.exit id,tmps,ds,w,V,⟨rfl,pre.size,pre.frame,pre.heap,.refl _ _ _,pre.dsok,⟨[],rfl,by simp⟩,pre.dsnd⟩,pre.norm,⟨k,rfl,.refl _ _⟩⟩
    | goto l=>
      have hx':=hxc (λ_ q=>by cases q); subst hx';simp only [aexec] at hl; cases hl;exact ⟨.goto l,tmps,ds,w,V,⟨rfl,pre.size,pre.frame,pre.heap,.refl _ _ _,pre.dsok,⟨[],rfl,by simp⟩,pre.dsnd⟩,pre.norm,⟨k,rfl,.refl _ _⟩⟩
    | ret=>
      have hx':=hxc (λ_ q=>by cases q); subst hx';simp only [aexec] at hl; cases hl;exact ⟨.ret,tmps,ds,w,V,⟨trivial,pre.size,pre.frame,pre.heap,.refl _ _ _,pre.dsok,⟨[],rfl,by simp⟩,pre.dsnd⟩,pre.norm,⟨k,.refl _ _⟩⟩
    | refuse s=>simp [aexec] at hl
    | region id ops draw=>
      have hx':=hxc (λ_ q=>by cases q); subst hx';simp only [zcC,Bool.and_eq_true] at hco;have hops:=zuq hco.1;simp only [aexec] at hl;cases draw with
      | false=>
        simp only [Bool.false_eq_true,if_false] at hl;obtain ⟨e',tmps',ds',w',V',h1,h2,h3⟩:=zoN ok hcall hops ops.toList 0 fr h e fr' h' rfl hl V w ds rnd tmps pre fn kind k cs;refine ⟨e',tmps',ds',w',V',h1,h2,Lands.of_steps (.one zke) ?_⟩;rw [List.range_eq_range'];have:ops.size=ops.toList.length:=by simp
        rw [this];exact h3
      | true=>
        simp only [if_true] at hl;have h2:=hco.2;simp only [Bool.not_true,Bool.false_or,Bool.and_eq_true] at h2;split at hl
        case h_2=>cases hl
        rename_i fr2 h2' had;cases hl;have hpre:Pre base V h { w with drawn:=w.drawn+1 } ds rnd n fr tmps:=⟨pre.size,pre.frame,pre.heap.heap rfl,pre.dsok,pre.dsnd,pre.rndok,pre.norm⟩;obtain ⟨tmps',w',V',q1,q2,q3,q4,q5⟩:=hdraw _ hcall (hck _ (hkeep m)) ops n hops h2.1 h2.2 fr h fr' h' had V { w with drawn:=w.drawn+1 } ds rnd tmps (w.tape w.drawn (.order fn id)) hpre fn kind k cs;have tr0:Trans V h w V h { w with drawn:=w.drawn+1 }:=.heap rfl rfl rfl rfl;have tr:=tr0.trans q4;refine ⟨.normal,tmps',ds,w',V',⟨trivial,q1,q2,q3,tr,pre.dsok.trans pre.heap tr,⟨[],rfl,by simp⟩,pre.dsnd⟩,pre.norm, ?_⟩;have hst:=zwX (P:=P) (fn:=fn) (kind:=kind) (rnd:=rnd) (tmps:=tmps) (ds:=ds) (k:=k) (cs:=cs) (w:=w) (id:=id) (ops:=ops);rw [ok.mixed] at hst;exact Steps.head hst q5
    | seq a b=>
      have hx':=hxc (λ_ q=>by cases q); subst hx';simp only [zcC,Bool.and_eq_true] at hco;simp only [aexec] at hl;cases h1:aexec T m a fr h with
      | none=>rw [h1] at hl; simp at hl
      | some out=>
        obtain ⟨e1,fr1,ha1⟩:=out;rw [h1] at hl;obtain ⟨e',tmps1,ds1,w1,V1,p1,n1,l1⟩:=ih _ _ _ _ _ _ h1 n hco.1 V w ds rnd tmps pre fn kind (.code b::k) cs _ (.inl rfl);have hex:=p1.exit;by_cases he:e1=.normal
        · subst he;cases e'<;>try exact hex.elim
          simp only at hl;obtain ⟨e'',tmps2,ds2,w2,V2,p2,n2,l2⟩:=ih _ _ _ _ _ _ hl n hco.2 V1 w1 ds1 rnd tmps1 (pre.post p1 n1) fn kind k cs _ (.inl rfl);exact ⟨e'',tmps2,ds2,w2,V2,p1.andThen p2,n2,Lands.of_steps (.head zlu l1) l2⟩
        · have hl':Ob (e1,fr1,ha1)=Ob (e,fr',h'):=by
            cases e1<;>first | (exact absurd rfl he) | exact hl
          cases hl';have hne:e'≠.normal:=by
            rintro rfl
            cases e<;>first | exact he rfl | exact hex
          exact ⟨e',tmps1,ds1,w1,V1,p1,n1,Lands.of_steps (.one zlu) (.pass (x:=.code b) rfl hne l1)⟩
    | cond c a b=>
      have hx':=hxc (λ_ q=>by cases q); subst hx';simp only [zcC,Bool.and_eq_true] at hco;simp only [aexec] at hl;split at hl
      case h_2=>cases hl
      rename_i t ht;have hv:=zih pre.frame c;rw [ht] at hv;generalize hcc:evT tmps c=cc at hv;cases hv;obtain ⟨e',tmps1,ds1,w1,V1,p1,n1,l1⟩:=ih _ _ _ _ _ _ hl n (by cases t<;>simp [hco]) V w ds rnd tmps pre fn kind k cs _ (.inl rfl);exact ⟨e',tmps1,ds1,w1,V1,p1,n1,Lands.of_steps (.one (zwU hcc)) l1⟩
    | block id c=>
      have hx':=hxc (λ_ q=>by cases q); subst hx';simp only [zcC] at hco;simp only [aexec] at hl;cases h1:aexec T m c fr h with
      | none=>rw [h1] at hl; simp at hl
      | some out=>
        obtain ⟨e1,fr1,ha1⟩:=out;rw [h1] at hl;obtain ⟨e',tmps1,ds1,w1,V1,p1,n1,l1⟩:=ih _ _ _ _ _ _ h1 n hco V w ds rnd tmps pre fn kind (.inBlock id::k) cs _ (.inl rfl);have hex:=p1.exit;have hpst:=λ(q:zAS V1 .normal .normal)=>(⟨q,p1.size,p1.frame,p1.heap,p1.trans,p1.dsok,p1.dsnew,p1.dsnd⟩:Post base V h w ds n .normal fr1 ha1 .normal tmps1 ds1 w1 V1);cases e1 with
        | normal=>
          cases e'<;>try exact hex.elim
          simp only at hl; cases hl;exact ⟨.normal,tmps1,ds1,w1,V1,p1,n1,Steps.head zhw (Steps.trans l1 (.one zqQ))⟩
        | exit id1=>
          cases e'<;>try exact hex.elim
          rename_i id2;have hid:id1=id2:=hex;subst hid;obtain ⟨k2,hk2,hst⟩:=l1;simp only at hl;split at hl
          · rename_i hid; subst hid;cases hl;refine ⟨.normal,tmps1,ds1,w1,V1,hpst trivial,n1, ?_⟩;exact Steps.head zhw (Steps.trans hst (.one (zwW (by rw [hk2]; simp [exitTo]))))
          · rename_i hid;cases hl;refine ⟨.exit id1,tmps1,ds1,w1,V1,p1,n1,⟨k2, ?_,Steps.head zhw hst⟩⟩;rw [hk2];have:(id==id1)=Oc:=by simp; exact λq=>hid q.symm
            simp [exitTo,this]
        | goto l=>
          cases e'<;>try exact hex.elim
          simp only at hl; cases hl;obtain ⟨k2,hk2,hst⟩:=l1;exact ⟨_,tmps1,ds1,w1,V1,p1,n1,⟨k2,by rw [hk2]; simp [gotoIn],Steps.head zhw hst⟩⟩
        | ret=>
          cases e'<;>try exact hex.elim
          simp only at hl; cases hl;obtain ⟨k2,hst⟩:=l1;exact ⟨_,tmps1,ds1,w1,V1,p1,n1,⟨k2,Steps.head zhw hst⟩⟩
        | pan v=>
          cases e'<;>try exact hex.elim
          simp only at hl; cases hl;obtain ⟨k2,a,hst⟩:=l1;exact ⟨_,tmps1,ds1,w1,V1,p1,n1,⟨k2,a,Steps.head zhw hst⟩⟩
    | scope c=>
      have hx':=hxc (λ_ q=>by cases q); subst hx';simp only [zcC] at hco;simp only [aexec] at hl;cases h1:aexec T m c fr h with
      | none=>rw [h1] at hl; simp at hl
      | some out=>
        obtain ⟨e1,fr1,ha1⟩:=out;rw [h1] at hl;obtain ⟨e',tmps1,ds1,w1,V1,p1,n1,l1⟩:=ih _ _ _ _ _ _ h1 n hco V w ds rnd tmps pre fn kind (.inScope c::k) cs _ (.inl rfl);have hex:=p1.exit;cases e1 with
        | normal=>
          cases e'<;>try exact hex.elim
          simp only at hl; cases hl;exact ⟨.normal,tmps1,ds1,w1,V1,p1,n1,Steps.head zjQ (Steps.trans l1 (.one zqR))⟩
        | exit id1=>
          cases e'<;>try exact hex.elim
          simp only at hl; cases hl;obtain ⟨k2,hk2,hst⟩:=l1;exact ⟨_,tmps1,ds1,w1,V1,p1,n1,⟨k2,by rw [hk2]; simp [exitTo],Steps.head zjQ hst⟩⟩
        | goto l=>simp at hl
        | ret=>
          cases e'<;>try exact hex.elim
          simp only at hl; cases hl;obtain ⟨k2,hst⟩:=l1;exact ⟨_,tmps1,ds1,w1,V1,p1,n1,⟨k2,Steps.head zjQ hst⟩⟩
        | pan v=>
          cases e'<;>try exact hex.elim
          simp only at hl; cases hl;obtain ⟨k2,a,hst⟩:=l1;exact ⟨_,tmps1,ds1,w1,V1,p1,n1,⟨k2,a,Steps.head zjQ hst⟩⟩
    | loop c=>
      have hst0:step P (lone (fat fn kind rnd tmps ds (x::k)) cs w)=.next (lone (fat fn kind rnd tmps ds (.code c::.inLoop c::k)) cs w):=by
        rcases hx with rfl | ⟨c',e,rfl⟩
        · exact zwV
        · cases e; exact zrP
      simp only [zcC] at hco;simp only [aexec] at hl;cases h1:aexec T m c fr h with
      | none=>rw [h1] at hl; simp at hl
      | some out=>
        obtain ⟨e1,fr1,ha1⟩:=out;rw [h1] at hl;obtain ⟨e',tmps1,ds1,w1,V1,p1,n1,l1⟩:=ih _ _ _ _ _ _ h1 n hco V w ds rnd tmps pre fn kind (.inLoop c::k) cs _ (.inl rfl);have hex:=p1.exit;by_cases he:e1=.normal
        · subst he;cases e'<;>try exact hex.elim
          simp only at hl;obtain ⟨e'',tmps2,ds2,w2,V2,p2,n2,l2⟩:=ih _ _ _ _ _ _ hl n (by simpa [zcC] using hco) V1 w1 ds1 rnd tmps1 (pre.post p1 n1) fn kind k cs _ (.inr ⟨c,rfl,rfl⟩);exact ⟨e'',tmps2,ds2,w2,V2,p1.andThen p2,n2,Lands.of_steps (.head hst0 l1) l2⟩
        · have hl':Ob (e1,fr1,ha1)=Ob (e,fr',h'):=by
            cases e1<;>first | (exact absurd rfl he) | exact hl
          cases hl';have hne:e'≠.normal:=by
            rintro rfl
            cases e<;>first | exact he rfl | exact hex
          exact ⟨e',tmps1,ds1,w1,V1,p1,n1,Lands.of_steps (.one hst0) (.pass (x:=.inLoop c) rfl hne l1)⟩
    | rangeFunc f params assign body=>
      have hx':=hxc (λ_ q=>by cases q); subst hx';simp only [zcC,Bool.and_eq_true] at hco;simp only [aexec] at hl
      -- the loop is laid
      have enter:∃ l mark w1,(Instr.enterLoop fn tmps params assign body rnd).run P w=.ok (l,mark) w1/\zeH base (V.add h.next ⟨l,0,0⟩) (h.push (.loop { state:=.ready,pending:=Oe,fr,params:=params.toList,assign,body })) w1 /\
          Trans V h w (V.add h.next ⟨l,0,0⟩) (h.push (.loop { state:=.ready,pending:=Oe,fr,params:=params.toList,assign,body })) w1/\zoM (mark++ds) w1/\ziR (mark++ds) /\
          (∀ d∈mark,∃ r,d={ target:=.collected r,args:=#[] }/\w.heap.size<=r)/\(rnd=Oe\/mark++ds=[]):=by
        have lay:∀ (w0:World) (dn:Nat),zeH base V h w0->Trans V h w V h w0->∀ w1:World,w1.heap=w0.heap.push (.loop { state:=.ready,pending:=Oe,fn,tmps,params,assign,body,defers:=dn })->w1.os=w0.os->w1.tape=w0.tape->w1.output=w0.output ->
            zeH base (V.add h.next ⟨w0.heap.size,0,0⟩) (h.push (.loop { state:=.ready,pending:=Oe,fr,params:=params.toList,assign,body })) w1 /\
            Trans V h w (V.add h.next ⟨w0.heap.size,0,0⟩) (h.push (.loop { state:=.ready,pending:=Oe,fr,params:=params.toList,assign,body })) w1:=by
          intro w0 dn hr0 ht0 w1 hw1 q1 q2 q3;obtain ⟨a,b⟩:=zl1 hr0.toH0 hr0.none_next (.loop { state:=.ready,pending:=Oe,fr,params:=params.toList,assign,body }) _ w1 0 hw1 q1 q2 q3
            ⟨hr0.base,{ state:=.ready,pending:=Oe,fn,tmps,params,assign,body,defers:=dn },by rw [hw1]; simp,⟨rfl,λ_=>rfl,rfl,rfl,rfl,pre.frame.mono (.add pre.heap.none_next),λp hp=>by
              show p<tmps.size;rw [pre.size];have:=List.all_eq_true.1 hco.1.1 p hp;simpa using this,by show zcC tmps.size assign=Od; rw [pre.size]; exact hco.1.2,by show zcC tmps.size body=Od; rw [pre.size]; exact hco.2⟩⟩
          exact ⟨a.toH b hr0,ht0.trans b⟩
        cases hrnd:rnd with
        | none=>
          let w0:World:={ w with heap:=w.heap.push (.deferred (Ob [])) }
          obtain ⟨g1,g2⟩:=pre.heap.grow (w':=w0) rfl rfl rfl rfl;have hz:w0.heap.size=w.heap.size+1:=by simp [w0]
          obtain ⟨a,b⟩:=lay w0 w.heap.size g1 g2 { w with heap:=(w.heap.push (.deferred (Ob []))).push (.loop { state:=.ready,pending:=Oe,fn,tmps,params,assign,body,defers:=w.heap.size }) } rfl rfl rfl rfl;rw [hz] at a b;refine ⟨w.heap.size+1,_,_,zij w,a,b, ?_, ?_, ?_,.inl rfl⟩
          · intro d hd;rcases List.mem_append.1 hd with hd | hd
            · simp at hd; subst hd;exact .inl ⟨w.heap.size,rfl,by simp [Array.getElem?_push]⟩
            · refine (pre.dsok d hd).imp (λq=>?_) id;obtain ⟨r,e1,e2⟩:=q;refine ⟨r,e1, ?_⟩;have hlt:r<w.heap.size:=(Array.getElem?_eq_some_iff.1 e2).1;simp only [Array.getElem?_push,Array.size_push];rw [if_neg J,if_neg J];exact e2
          · refine List.pairwise_append.2 ⟨by simp,pre.dsnd,λd hd d' hd'=>?_⟩;simp at hd; subst hd
            rintro rfl
            rcases pre.dsok _ hd' with ⟨r,e1,e2⟩ | q;rotate_left
            · exact q _ rfl
            simp at e1;subst e1;have hlt:=(Array.getElem?_eq_some_iff.1 e2).1;omega
          · intro d hd;simp at hd; subst hd;exact ⟨w.heap.size,rfl,Nat.le_refl _⟩
        | some l0=>
          obtain ⟨la,loc,L,r1,r2,r3⟩:=pre.rndok l0 hrnd;obtain ⟨_,L',r4,_⟩:=ziU pre.heap r1 r3;subst r2;have hds:ds=[]:=pre.norm.resolve_left (by rw [hrnd]; simp);subst hds;obtain ⟨a,b⟩:=lay w L'.defers pre.heap (.refl _ _ _) { w with heap:=w.heap.push (.loop { state:=.ready,pending:=Oe,fn,tmps,params,assign,body,defers:=L'.defers }) } rfl rfl rfl rfl;exact ⟨w.heap.size,[],_,zik w r4,a,b,(λd hd=>by cases hd),.nil,(λd hd=>by cases hd),.inr rfl⟩
      obtain ⟨l,mark,w1,hrun,hr1,ht1,hd1,hn1,hm1,hnorm⟩:=enter;cases hca:acall T (aexec T m) (fr.op f) [.func (.yield h.next) [] []] (h.push (.loop { state:=.ready,pending:=Oe,fr,params:=params.toList,assign,body })) with
      | none=>rw [hca] at hl; simp at hl
      | some out=>
        obtain ⟨r,ha2⟩:=out;rw [hca] at hl;have hargs:zcB (V.add h.next ⟨l,0,0⟩) [.func (.yield h.next) [] []] (#[Value.func (.yield l) #[] #[]]:Array Value).toList:=
          .cons (.func _ _ [] [] #[] #[] (.inl ⟨h.next,l,rfl,rfl,⟨l,0,0⟩,Emb.add_same _ _ _,rfl⟩) rfl rfl Ol Ol) (.nil _)
        obtain ⟨nx,s,q1,q2,q3⟩:=hcall _ _ _ _ _ hca _ w1 (evT tmps f) _ ((zih pre.frame f).mono ht1.ext) hargs hr1;obtain ⟨r',w2,V2,q4,q5,q6,q7⟩:=q3 (fat fn kind rnd tmps (mark++ds) (.inRangeFunc l::k)) cs;have hst:=znr (ds:=ds) (k:=k) (cs:=cs) (kind:=kind) hrun q1 q2;have hall:=Steps.head hst q7;have tr2:=ht1.trans q6;have hd2:zoM (mark++ds) w2:=hd1.trans hr1 q6;cases r with
        | pan v=>
          simp only at hl;cases hl;cases r' with
          | ret _=>exact q4.elim
          | pan v'=>
            exact ⟨.pan v',tmps,mark++ds,w2,V2,⟨q4,pre.size,pre.frame.mono tr2.ext,q5,tr2,hd2,⟨mark,rfl,hm1⟩,hn1⟩,hnorm,⟨.inRangeFunc l::k,rfl,hall⟩⟩
        | ret v=>
          cases r' with
          | pan _=>exact q4.elim
          | ret v'=>
            simp only at hl;split at hl
            case h_2=>cases hl
            rename_i L2 hg2;split at hl
            · cases hl
            rename_i hbusy;have hb2:V2 h.next=Ob ⟨l,0,0⟩:=q6.ext _ _ (Emb.add_same _ _ _);obtain ⟨hbase2,L2',hg2',hL2⟩:=ziU q5 hb2 hg2;have hbusy':L2'.state≠.busy:=by rw [hL2.state]; exact hbusy
            have hLe:zgG V2 { L2 with state:=.exhausted } { L2' with state:=.exhausted }:=⟨rfl,λ_=>hL2.pending hbusy,hL2.params,hL2.assign,hL2.body,hL2.frame,hL2.okP,hL2.okA,hL2.okB⟩;obtain ⟨hr3,ht3⟩:=zmb q5 hb2 hg2 (L:={ L2 with state:=.exhausted }) ⟨rfl,rfl,rfl,rfl⟩ hLe;have hfin:(zua.ret v').frame (fat fn kind rnd tmps (mark++ds) (.inRangeFunc l::k))=fat fn kind rnd tmps (mark++ds) (.endRangeFunc l::k):=by simp only [zua.frame]; rfl
            rw [hfin] at hall;have hst3:=zoP (P:=P) (fn:=fn) (kind:=kind) (rnd:=rnd) (tmps:=tmps) (ds:=mark++ds) (k:=k) (cs:=cs) hg2' hbusy';obtain ⟨w3,hw3⟩:∃ w3:World,w3={ w2 with heap:=w2.heap.setIfInBounds l (.loop { L2' with state:=.exhausted }) }:=⟨_,rfl⟩;have hall3:Steps P (lone (fat fn kind rnd tmps ds (.code (.rangeFunc f params assign body)::k)) cs w) (lone (fat fn kind rnd tmps (mark++ds) ((L2'.pending.map Item.code).toList++k)) cs w3):=by
              rw [hw3]; exact hall.trans (.one hst3)
            have tr3:=tr2.trans ht3;have hpost:∀ (e:zaC) (e':zk7),zAS V2 e e'->Post base V h w ds n e fr (ha2.set h.next (.loop { L2 with state:=.exhausted })) e' tmps (mark++ds) w3 V2:=by
              rw [hw3];exact λe e' he=>⟨he,pre.size,pre.frame.mono tr3.ext,hr3,tr3,hd2.trans q5 ht3,⟨mark,rfl,hm1⟩,hn1⟩
            have hpend:=hL2.pending hbusy;split at hl
            · rename_i hp;cases hl;rw [hpend,hp] at hall3;exact ⟨.normal,tmps,_,_,V2,hpost .normal .normal trivial,hnorm,hall3⟩
            · rename_i hp;cases hl;rw [hpend,hp] at hall3;exact ⟨.ret,tmps,_,_,V2,hpost .ret .ret trivial,hnorm,⟨k,hall3⟩⟩
            · rename_i id hp;cases hl;rw [hpend,hp] at hall3;exact ⟨.exit id,tmps,_,_,V2,hpost (.exit id) (.exit id) rfl,hnorm,⟨k,rfl,hall3⟩⟩
            · cases hl
end
theorem Keeps.refl (h:za):Keeps h h:=⟨Nat.le_refl _,Nat.le_refl _,λ_ _ _=>rfl⟩
theorem Keeps.trans {a b c:za} (h:Keeps a b) (h':Keeps b c):Keeps a c:=by
 refine ⟨Nat.le_trans h.1 h'.1,Nat.le_trans h'.2.1 h.2.1,λx hx hw=>?_⟩;rw [h'.2.2 x (Nat.lt_of_lt_of_le hx h.1) hw];exact h.2.2 x hx (Nat.lt_of_lt_of_le hw h'.2.1)
theorem Keeps.push (h:za) (x:zf8):Keeps h (h.push x):=
 ⟨Nat.le_succ _,Nat.le_refl _,λb hb _=>by rw [za.get_push,if_neg J]⟩
theorem Keeps.set (h:za) (b:Nat) (x:zf8):Keeps h (h.set b x):=by
 refine ⟨Nat.le_refl _,Nat.min_le_left _ _,λb' _ hw=>?_⟩;have:b'<min h.wm b:=hw;rw [za.get_set,if_neg J]
section
variable {T:Tab} {h h':za}
theorem zns {t:TypeId} {a v:zb} (hl:astore T t h a v=Ob h'):Keeps h h':=by
 unfold astore at hl;repeat' split at hl
 all_goals first | (cases hl; done) | (cases hl; exact Keeps.set ..)
theorem zhJ {elem:TypeId} {len n:Nat} {cap:Option Nat} {parts:List (Nat×zb)} {v:zb} (hl:zdb T elem len cap n h parts=Ob (v,h')):Keeps h h':=by
 unfold zdb at hl;repeat' split at hl
 all_goals first | (cases hl; done) | (cases hl; exact Keeps.push ..)
theorem znt {st xt:TypeId} {s x v:zb} (hl:azeros T st xt s x h=Ob (v,h')):Keeps h h':=by
 unfold azeros at hl;repeat' split at hl
 all_goals first | (cases hl; done) | (cases hl; exact Keeps.push ..)
theorem zmc {ts:Array TypeId} {s x v:zb} (hl:aappend T ts s x h=Ob (v,h')):Keeps h h':=by
  unfold aappend at hl;repeat' split at hl
  all_goals first
    | (cases hl; done)
    | exact znt hl
    | (simp only at hl
       repeat' split at hl
       all_goals first
         | (cases hl; done)
         | (cases hl; first | exact Keeps.refl _ | exact Keeps.push .. | exact Keeps.set .. | exact (Keeps.set ..).trans (Keeps.push ..)))
theorem zoQ {ts:Array TypeId} {s x v:zb} (hl:acopy T ts s x h=Ob (v,h')):Keeps h h':=by
  unfold acopy at hl;repeat' split at hl
  all_goals first
    | (cases hl; done)
    | (simp only at hl
       repeat' split at hl
       all_goals first
         | (cases hl; done)
         | (cases hl; first | exact Keeps.refl _ | exact Keeps.set ..))
theorem zg1 {t:TypeId} {m k v:zb} (hl:zbN T t m k v h=Ob h'):Keeps h h':=by
 unfold zbN at hl;repeat' split at hl
 all_goals first | (cases hl; done) | (cases hl; exact Keeps.set ..)
theorem zkg {t:TypeId} {m k v:zb} (hl:zcz T t m k h=Ob (v,h')):Keeps h h':=by
 unfold zcz at hl;repeat' split at hl
 all_goals first | (cases hl; done) | (cases hl; exact Keeps.set ..)
theorem ziV {m s x:zb} (hl:zbn m s x h=Ob h'):Keeps h h':=by
 unfold zbn at hl;repeat' split at hl
 all_goals first | (cases hl; done) | (cases hl; exact Keeps.set ..)
theorem zhc {ev:Operand->zb} {o:Op} {v:zb} (hl:aop T ev h o=Ob (.val v h')):Keeps h h':=by
 cases o<;>simp only [aop] at hl<;>(try (cases hl; done))<;>(try (obtain ⟨_,rfl⟩:=zH hl; exact Keeps.refl _))
 case move=>cases hl; exact Keeps.refl _
 case assign=>cases hl; exact Keeps.refl _
 case pick=>unfold zie at hl; split at hl<;>cases hl; exact Keeps.refl _
 case alloc=>unfold zgg at hl; split at hl<;>cases hl; exact Keeps.push ..
 case box=>unfold zj7 at hl; split at hl<;>cases hl; exact Keeps.push ..
 case buildSlice=>
  have hl:=za6 hl;unfold zd8 at hl;repeat' split at hl
  all_goals first | (cases hl; done) | exact zhJ hl
 case store=>exact zns (zbO hl).1
 case nilCheck=>unfold zdC at hl; split at hl<;>cases hl<;>exact Keeps.refl _
 case makeInterface=>unfold zcV at hl; split at hl<;>cases hl; exact Keeps.refl _
 case makeFunc=>unfold zdD at hl; split at hl<;>cases hl; exact Keeps.refl _
 case makeMap=>unfold ze4 at hl; split at hl<;>cases hl; exact Keeps.push ..
 case makeSlice=>
  have hl:=za6 hl;unfold zeK at hl;repeat' split at hl
  all_goals first | (cases hl; done) | exact zhJ hl
 case mapUpdate=>exact zg1 (zbO hl).1
 case insert=>exact zg1 (zbO hl).1
 case mapEntry=>exact zkg (za6 hl)
 case entryStore=>exact ziV (zbO hl).1
 case extract=>
  unfold zfN at hl;split at hl
  . obtain ⟨_,rfl⟩:=zH hl; exact Keeps.refl _
  . cases hl
 case call c=>
  unfold zc4 at hl;split at hl
  . unfold abuiltin at hl;split at hl
    . split at hl
      . obtain ⟨_,rfl⟩:=zH hl; exact Keeps.refl _
      . cases hl
    . split at hl
      . obtain ⟨_,rfl⟩:=zH hl; exact Keeps.refl _
      . cases hl
    . exact zmc (za6 hl)
    . exact zoQ (za6 hl)
    . obtain ⟨_,rfl⟩:=zH hl; exact Keeps.refl _
    . obtain ⟨_,rfl⟩:=zH hl; exact Keeps.refl _
    . cases hl
  . cases hl
  . cases hl
theorem zgK {call:Caller} (hc:zfQ call) {ev:Operand->zb} {o:Op} {r:zhT} (hl:astep T call ev o h=Ob (r,h')):Keeps h h':=by
 unfold astep at hl;split at hl
 . rename_i ha; cases hl; exact zhc ha
 . exact hc _ _ _ _ _ hl
 . split at hl
   . cases hl; exact Keeps.refl _
   . cases hl
end
theorem ziW {T:Tab} {call:Caller} (hc:zfQ call) {ops:List Oper}:∀ (rest:List Oper) (fr:zg) (h:za) (e:zaC) (fr':zg) (h':za),aops T call ops rest fr h=Ob (e,fr',h')->Keeps h h'
 | [],fr,h,e,fr',h',hl=>by simp only [aops] at hl; cases hl; exact Keeps.refl _
 | o::rest,fr,h,e,fr',h',hl=>by
  simp only [aops] at hl;split at hl
  . split at hl
    . rename_i hs; exact (zgK hc hs).trans (ziW hc rest _ _ _ _ _ hl)
    . rename_i hs; cases hl; exact zgK hc hs
    . cases hl
  . exact ziW hc rest _ _ _ _ _ hl
  . cases hl
theorem zuu {h h':za} (hk:Keeps { h with wm:=h.next } h'):Keeps h { h' with wm:=min h.wm h'.wm }:=
 ⟨hk.1,Nat.min_le_left _ _,λb hb hw=>hk.2.2 b hb (by have:b<min h.wm h'.wm:=hw; omega)⟩
theorem zhX {T:Tab} {call:Caller} (hc:zfQ call) {ops:List Oper}:∀ (rest:List Oper) (i:Nat) (done:List (Nat×Foot)) (fr:zg) (h:za) (fr':zg) (h':za),adraw T call ops rest i done fr h=Ob (fr',h')->Keeps h h'
 | [],i,done,fr,h,fr',h',hl=>by simp only [adraw] at hl; cases hl; exact Keeps.refl _
 | o::rest,i,done,fr,h,fr',h',hl=>by
  simp only [adraw] at hl;split at hl
  . split at hl
    . rename_i hs;have hk:=zuu (zgK hc hs);rename_i v h1;cases hf:zcL ops i (zf9 (foot fr.op o) h h1) done with
      | false=>rw [hf] at hl; cases hl
      | true=>
       rw [hf] at hl;simp only [cond_true] at hl;exact hk.trans (zhX hc rest _ _ _ _ _ _ hl)
    . cases hl
  . exact zhX hc rest _ _ _ _ _ _ hl
  . cases hl
theorem zgL {run:Runner} (hr:zgJ run):∀ (cs:List Code) (fr:zg) (h:za) (e:zaC) (fr':zg) (h':za),aseqs run cs fr h=Ob (e,fr',h')->Keeps h h'
 | [],fr,h,e,fr',h',hl=>by simp only [aseqs] at hl; cases hl; exact Keeps.refl _
 | c::cs,fr,h,e,fr',h',hl=>by
  simp only [aseqs] at hl;split at hl
  . rename_i hh; exact (hr _ _ _ _ _ _ hh).trans (zgL hr cs _ _ _ _ _ hl)
  . exact hr _ _ _ _ _ _ hl
theorem zjt {run:Runner} (hr:zgJ run) {D:zen} {x v:zb} {h h':za} (hl:aclose run D x v h=Ob h'):Keeps h h':=by
 unfold aclose at hl;split at hl
 . rename_i g first captured
   cases hb:Nat.beq g D.fn&&Nat.ble (first++captured).length D.cn with
   | false=>rw [hb] at hl; cases hl
   | true=>
    rw [hb] at hl;simp only [cond_true] at hl;split at hl
    . rename_i hh; cases hl; exact hr _ _ _ _ _ _ hh
    . cases hl
 . cases hl
theorem znu {T:Tab} {run:Runner} (hr:zgJ run) {D:zen} {args:List zb} {h h':za} {r:zhT} (hl:zjp T run D args h=Ob (r,h')):Keeps h h':=by
 unfold zjp at hl;cases hb:Nat.blt D.ntmps args.length with
 | true=>rw [hb] at hl; cases hl
 | false=>
  rw [hb] at hl;simp only [cond_false] at hl;split at hl
  . rename_i hh; obtain ⟨rfl,_⟩:=zma hl; exact zgL hr _ _ _ _ _ _ hh
  . rename_i h0;split at hl
    . rename_i h1;split at hl
      . rename_i h2;obtain ⟨h3,_⟩:=zgo hl;exact (((zgL hr _ _ _ _ _ _ h0).trans (zhc h1)).trans (hr _ _ _ _ _ _ h2)).trans (zjt hr h3)
      . rename_i h2;obtain ⟨h3,_⟩:=zgo hl;exact (((zgL hr _ _ _ _ _ _ h0).trans (zhc h1)).trans (hr _ _ _ _ _ _ h2)).trans (zjt hr h3)
      . cases hl
    . cases hl
  . cases hl
theorem zkh {T:Tab}:∀ run,zgJ run->zfQ (acall T run):=by
 intro run hr f args h r h' hl;unfold acall at hl;split at hl
 ·split at hl
  ·simp only [Option.map_eq_some_iff] at hl;obtain ⟨_,_,e⟩:=hl;cases e;exact Keeps.refl _
  unfold zeL at hl;split at hl
  case h_2=>
   split at hl
   ·exact znu hr hl
   ·cases hl
  rename_i F _;cases hb:Nat.blt F.ntmps _ with
  | true=>rw [hb] at hl; cases hl
  | false=>
   rw [hb] at hl;simp only [cond_false] at hl;repeat' split at hl
   all_goals first
    | (cases hl; done)
    | (rename_i hh _ _ _; cases hl; exact hr _ _ _ _ _ _ hh)
    | (rename_i hh _ _; cases hl; exact hr _ _ _ _ _ _ hh)
    | (rename_i hh _; cases hl; exact hr _ _ _ _ _ _ hh)
    | (rename_i hh; cases hl; exact hr _ _ _ _ _ _ hh)
 ·unfold around at hl;split at hl
  case h_2=>cases hl
  split at hl
  case isFalse=>cases hl
  split at hl
  case h_2=>cases hl
  rename_i h1;split at hl
  case h_2=>cases hl
  split at hl
  case isFalse=>cases hl
  have k1:=hr _ _ _ _ _ _ h1;split at hl;all_goals first
   | (cases hl; done)
   | (rename_i h2; cases hl; have k2:=hr _ _ _ _ _ _ h2; exact (k1.trans (Keeps.set ..)).trans (k2.trans (Keeps.set ..)))
   | (rename_i h2; cases hl; have k2:=hr _ _ _ _ _ _ h2; exact (k1.trans (Keeps.set ..)).trans k2)
 ·cases hl
theorem zki {T:Tab}:∀ n,zgJ (aexec T n)
 | 0=>by intro c fr h e fr' h' hl; simp [aexec] at hl
 | n+1=>by
  have ih:=zki (T:=T) n;have hc:=zkh (T:=T) _ ih;intro c fr h e fr' h' hl;cases c with
  | skip=>simp only [aexec] at hl; cases hl; exact Keeps.refl _
  | label l=>simp only [aexec] at hl; cases hl; exact Keeps.refl _
  | exit id=>simp only [aexec] at hl; cases hl; exact Keeps.refl _
  | goto l=>simp only [aexec] at hl; cases hl; exact Keeps.refl _
  | ret=>simp only [aexec] at hl; cases hl; exact Keeps.refl _
  | refuse s=>simp [aexec] at hl
  | region id ops draw=>
   simp only [aexec] at hl;split at hl
   ·split at hl
    ·rename_i hd; cases hl; exact zhX hc _ _ _ _ _ _ _ hd
    ·cases hl
   ·exact ziW hc _ _ _ _ _ _ hl
  | seq a b=>
   simp only [aexec] at hl;split at hl
   ·rename_i h1; exact (ih _ _ _ _ _ _ h1).trans (ih _ _ _ _ _ _ hl)
   ·exact ih _ _ _ _ _ _ hl
  | cond c a b=>
   simp only [aexec] at hl;split at hl
   ·exact ih _ _ _ _ _ _ hl
   ·cases hl
  | block id c=>
   simp only [aexec] at hl;split at hl
   ·rename_i h1;split at hl<;>cases hl<;>exact ih _ _ _ _ _ _ h1
   ·exact ih _ _ _ _ _ _ hl
  | loop c=>
   simp only [aexec] at hl;split at hl
   ·rename_i h1; exact (ih _ _ _ _ _ _ h1).trans (ih _ _ _ _ _ _ hl)
   ·exact ih _ _ _ _ _ _ hl
  | scope c=>
   simp only [aexec] at hl;split at hl
   ·cases hl
   ·exact ih _ _ _ _ _ _ hl
  | rangeFunc f params assign body=>
   simp only [aexec] at hl;split at hl
   ·rename_i h1;have k1:=(Keeps.push h _).trans (hc _ _ _ _ _ h1);split at hl
    case h_2=>cases hl
    split at hl
    ·cases hl
    split at hl;all_goals first | (cases hl; done) | (cases hl; exact k1.trans (Keeps.set ..))
   ·rename_i h1; cases hl; exact (Keeps.push h _).trans (hc _ _ _ _ _ h1)
   ·cases hl
def zD (W:List Nat) (h1 h1' h2 h2':za):Prop:=
 h2'.next=h1'.next/\((h1'.next=h1.next)\/h1'.next=h1.next+1) /\
 ∀ b,(h1'.get b=h1.get b/\h2'.get b=h2.get b/\(b≠h1.next\/h1'.next=h1.next))\/(h2'.get b=h1'.get b/\(b∈W\/(b=h1.next/\h1'.next=h1.next+1)))
section
variable {W:List Nat} {h1 h2:za} (hn:h2.next=h1.next)
include hn
theorem zD.refl:zD W h1 h1 h2 h2:=⟨hn,.inl rfl,λ_=>.inl ⟨rfl,rfl,.inr rfl⟩⟩
theorem zD.push (x:zf8):zD W h1 (h1.push x) h2 (h2.push x):=by
 refine ⟨by simp [za.next_push,hn],.inr (by simp [za.next_push]),λb=>?_⟩;rw [za.get_push,za.get_push,hn];by_cases e:b=h1.next
 . rw [if_pos e,if_pos e]; exact .inr ⟨rfl,.inr ⟨e,rfl⟩⟩
 . rw [if_neg e,if_neg e]; exact .inl ⟨rfl,rfl,.inl e⟩
theorem zD.set (b:Nat) (x:zf8) (hb:b∈W):zD W h1 (h1.set b x) h2 (h2.set b x):=by
 refine ⟨by simp [za.next_set,hn],.inl rfl,λb'=>?_⟩;rw [za.get_set,za.get_set];by_cases e:b'=b
 . rw [if_pos e,if_pos e]; exact .inr ⟨rfl,.inl (e▸hb)⟩
 . rw [if_neg e,if_neg e]; exact .inl ⟨rfl,rfl,.inr rfl⟩
theorem zD.move (b:Nat) (x:zf8) (hb:b∈W):zD W h1 ((h1.set b .dead).push x) h2 ((h2.set b .dead).push x):=by
 refine ⟨by simp [za.next_push,za.next_set,hn],.inr (by simp [za.next_push,za.next_set]),λb'=>?_⟩;rw [za.get_push,za.get_push,za.get_set,za.get_set,za.next_set,za.next_set,hn];by_cases e:b'=h1.next
 . rw [if_pos e,if_pos e]; exact .inr ⟨rfl,.inr ⟨e,rfl⟩⟩
 . rw [if_neg e,if_neg e];by_cases e2:b'=b
   . rw [if_pos e2,if_pos e2]; exact .inr ⟨rfl,.inl (e2▸hb)⟩
   . rw [if_neg e2,if_neg e2]; exact .inl ⟨rfl,rfl,.inl e⟩
end
section
variable {T:Tab} {h1 h2:za}
theorem zoR {t:TypeId} {a:zb} (hag:∀ b∈zN a,h2.get b=h1.get b):aload T t h2 a=aload T t h1 a:=by
 unfold aload;cases a<;>try rfl
 rename_i b off;simp only [hag b (by simp [zN])]
theorem zmd {t:TypeId} {x ix:zb} {ok:Bool} (hag:∀ b∈zN x,h2.get b=h1.get b):alookup T t x ix ok h2=alookup T t x ix ok h1:=by
 unfold alookup;cases x<;>try rfl
 rename_i r;simp only [hag r (by simp [zN])]
theorem zlz {es n:Nat} {x:zb} (hag:∀ b∈zN x,h2.get b=h1.get b):arow es n x h2=arow es n x h1:=by
 unfold arow;cases x<;>try rfl
 rename_i b off len es' cap;simp only [hag b (by simp [zN])]
theorem zqU {t:TypeId} {x:zb} (hag:∀ b∈zoF x,h2.get b=h1.get b):alen T t x h2=alen T t x h1:=by
 unfold alen;cases x
 case map r=>
  have hr:=hag r (by simp [zoF]);cases T.und t with
  | none=>rfl
  | some d=>cases d<;>first | rfl | simp only [hr]
 all_goals (cases T.und t with
  | none=>rfl
  | some d=>cases d<;>rfl)
theorem znv {t:TypeId} {a v:zb} {h1':za} (hn:h2.next=h1.next) (hag:∀ b∈zN a,h2.get b=h1.get b) (hl:astore T t h1 a v=Ob h1') :
 ∃ h2',astore T t h2 a v=Ob h2'/\zD (zN a) h1 h1' h2 h2':=by
 unfold astore at hl ⊢;split at hl
 case h_2=>cases hl
 rename_i b off;simp only [hag b (by simp [zN])];split at hl
 case h_2=>cases hl
 rename_i cells hg;split at hl
 case h_2=>cases hl
 rename_i n hsz;split at hl
 case isFalse=>cases hl
 rename_i hc;cases hl;rw [if_pos hc];exact ⟨_,rfl,zD.set hn b _ (by simp [zN])⟩
theorem zkj {t:TypeId} {m k v:zb} {h1':za} (hn:h2.next=h1.next) (hag:∀ b∈zN m,h2.get b=h1.get b) (hl:zcz T t m k h1=Ob (v,h1')) :
 ∃ h2',zcz T t m k h2=Ob (v,h2')/\zD (zN m) h1 h1' h2 h2':=by
 unfold zcz at hl ⊢;split at hl
 case h_2=>cases hl
 rename_i key elem r hu;simp only [hag r (by simp [zN])];split at hl
 case isFalse=>cases hl
 rename_i hk;simp only [hk,if_true];repeat' split at hl
 all_goals first | (cases hl; done) | (cases hl; exact ⟨_,by simp_all,zD.set hn r _ (by simp [zN])⟩)
theorem ziX {m s v:zb} {h1':za} (hn:h2.next=h1.next) (hag:∀ b∈zN m,h2.get b=h1.get b) (hl:zbn m s v h1=Ob h1') :
 ∃ h2',zbn m s v h2=Ob h2'/\zD (zN m) h1 h1' h2 h2':=by
 unfold zbn at hl ⊢;split at hl
 case h_2=>cases hl
 rename_i r kk i;simp only [hag r (by simp [zN])];repeat' split at hl
 all_goals first | (cases hl; done) | (cases hl; exact ⟨_,by simp_all,zD.set hn r _ (by simp [zN])⟩)
theorem zg2 {t:TypeId} {m k v:zb} {h1':za} (hn:h2.next=h1.next) (hag:∀ b∈zN m,h2.get b=h1.get b) (hl:zbN T t m k v h1=Ob h1') :
 ∃ h2',zbN T t m k v h2=Ob h2'/\zD (zN m) h1 h1' h2 h2':=by
 unfold zbN at hl ⊢;split at hl
 case h_2=>cases hl
 rename_i key elem r hu;simp only [hag r (by simp [zN])];split at hl
 case isFalse=>cases hl
 rename_i hk;simp only [hk,if_true];split at hl
 case h_2=>cases hl
 rename_i es hg;split at hl
 . rename_i i u hf;cases hl;exact ⟨_,by simp [hf],zD.set hn r _ (by simp [zN])⟩
 . rename_i hf;cases hl;exact ⟨_,by simp [hf],zD.set hn r _ (by simp [zN])⟩
 . cases hl
theorem zhK {elem:TypeId} {len n:Nat} {cap:Option Nat} {parts:List (Nat×zb)} {v:zb} {h1':za} (hn:h2.next=h1.next) (hl:zdb T elem len cap n h1 parts=Ob (v,h1')) :
 ∃ h2',zdb T elem len cap n h2 parts=Ob (v,h2')/\zD [] h1 h1' h2 h2':=by
 unfold zdb at hl ⊢;rw [hn];split at hl
 case h_2=>cases hl
 split at hl
 . cases hl
 rename_i hs;split at hl
 case h_2=>cases hl
 split at hl
 case isFalse=>cases hl
 rename_i hz;split at hl
 case h_2=>cases hl
 cases hl;exact ⟨_,by simp only [hs,hz,if_false,if_true],zD.push hn _⟩
theorem zoS {ts:Array TypeId} {d s v:zb} {h1':za} (hn:h2.next=h1.next) (hd:∀ b∈zN d,h2.get b=h1.get b) (hs:∀ b∈zN s,h2.get b=h1.get b) (hl:acopy T ts d s h1=Ob (v,h1')) :
 ∃ h2',acopy T ts d s h2=Ob (v,h2')/\zD (zN d) h1 h1' h2 h2':=by
 unfold acopy at hl ⊢;split at hl
 case h_2=>cases hl
 split at hl
 case h_2=>cases hl
 split at hl
 case h_2=>cases hl
 simp only at hl ⊢;split at hl
 . cases hl
 rename_i hes;rw [if_neg hes];rw [zlz hs];split at hl
 case h_2=>cases hl
 split at hl
 . cases hl;exact ⟨_,rfl,zD.refl hn⟩
 . rename_i b off len es' cap _;rw [hd b (by simp [zN])];split at hl
   case h_2=>cases hl
   split at hl
   case isFalse=>cases hl
   rename_i hc;cases hl;rw [if_pos hc];exact ⟨_,rfl,zD.set hn b _ (by simp [zN])⟩
 . cases hl
theorem znw {st xt:TypeId} {s x v:zb} {h1':za} (hn:h2.next=h1.next) (hl:azeros T st xt s x h1=Ob (v,h1')) :
 ∃ h2',azeros T st xt s x h2=Ob (v,h2')/\zD (zN s) h1 h1' h2 h2':=by
 unfold azeros at hl ⊢;split at hl
 case h_2=>cases hl
 split at hl
 case h_2=>cases hl
 split at hl
 case h_2=>cases hl
 split at hl
 . cases hl
 rename_i he;split at hl
 case isFalse=>cases hl
 rename_i hc;cases hl;simp only [if_neg he,if_pos hc,hn];exact ⟨_,rfl,zD.push hn _⟩
theorem zme {ts:Array TypeId} {s x v:zb} {h1':za} (hn:h2.next=h1.next) (hs:∀ b∈zN s,h2.get b=h1.get b) (hx:∀ b∈zN x,h2.get b=h1.get b) (hl:aappend T ts s x h1=Ob (v,h1')) :
 ∃ h2',aappend T ts s x h2=Ob (v,h2')/\zD (zN s) h1 h1' h2 h2':=by
 unfold aappend at hl ⊢;split at hl
 case h_2=>cases hl
 split at hl
 . rename_i hst;rw [if_pos hst];exact znw hn hl
 rename_i hst;rw [if_neg hst];split at hl
 case h_2=>cases hl
 split at hl
 case h_2=>cases hl
 simp only at hl ⊢;split at hl
 . cases hl
 split at hl
 . cases hl
 rename_i hes;rw [if_neg hes,zlz hx];split at hl
 case h_2=>cases hl
 split at hl
 . split at hl
   . rename_i h0;cases hl;rw [if_pos h0];exact ⟨_,rfl,zD.refl hn⟩
   . rename_i h0;rw [if_neg h0];split at hl
     case isFalse=>cases hl
     rename_i hc;cases hl;rw [if_pos hc,hn];exact ⟨_,rfl,zD.push hn _⟩
 . rename_i b off len es' cap;rw [hs b (by simp [zN])];split at hl
   case isFalse=>cases hl
   rename_i hc;rw [if_pos hc];split at hl
   case h_2=>cases hl
   split at hl
   . split at hl
     . rename_i hroom;split at hl
       case isFalse=>cases hl
       rename_i hc2;cases hl;simp only [hroom,hc2,if_true,and_self];exact ⟨_,rfl,zD.set hn b _ (by simp [zN])⟩
     . rename_i hroom;split at hl
       case isFalse=>cases hl
       rename_i hc2;cases hl;simp only [hroom,hc2,if_true,if_false,hn];exact ⟨_,rfl,zD.push hn _⟩
   . split at hl
     case isFalse=>cases hl
     rename_i hc2;cases hl;simp only [hc2,if_true,and_self,hn];exact ⟨_,rfl,zD.move hn b _ (by simp [zN])⟩
 . cases hl
theorem zD.mono {W W':List Nat} {a b c d:za} (h:zD W a b c d) (hw:∀ x∈W,x∈W'):zD W' a b c d:=
 ⟨h.1,h.2.1,λx=>by
  rcases h.2.2 x with q | ⟨q1,q2 | q2⟩
  ·exact .inl q
  ·exact .inr ⟨q1,.inl (hw x q2)⟩
  ·exact .inr ⟨q1,.inr q2⟩⟩
theorem znx {ev:Operand->zb} {o:Oper} {v:zb} {h1':za} (hl:aop T ev h1 o.op=Ob (.val v h1')) (hn:h2.next=h1.next) (hag:∀ b,b∈(foot ev o).rd\/b∈(foot ev o).wr->h2.get b=h1.get b) :
 ∃ h2',aop T ev h2 o.op=Ob (.val v h2')/\zD (foot ev o).wr h1 h1' h2 h2':=by
 unfold foot at hag ⊢;cases ho:o.op<;>rw [ho] at hl<;>simp only [ho] at hag<;>simp only [aop] at hl ⊢<;>(try (cases hl; done))
 case move x=>cases hl; exact ⟨h2,rfl,zD.refl hn⟩
 case assign x=>cases hl; exact ⟨h2,rfl,zD.refl hn⟩
 case pick c a b=>
  unfold zie at hl ⊢;split at hl<;>cases hl;exact ⟨h2,rfl,zD.refl hn⟩
 case alloc elem=>
  unfold zgg at hl ⊢;split at hl<;>cases hl;rw [hn];exact ⟨_,rfl,zD.push hn _⟩
 case box elem x=>
  unfold zj7 at hl ⊢;split at hl<;>cases hl;rename_i hne;refine ⟨h2.push (.arr (ev x).cells Oc), ?_,zD.push hn _⟩;rw [hn]
 case build t parts=>
  obtain ⟨hl2,rfl⟩:=zH hl;exact ⟨h2,by rw [hl2]; rfl,zD.refl hn⟩
 case buildSlice t len parts=>
  have hl2:=za6 hl;unfold zd8 at hl2 ⊢;split at hl2
  case h_2=>cases hl2
  split at hl2
  . cases hl2
  rename_i hb;obtain ⟨h2',q1,q2⟩:=zhK hn hl2;rw [if_neg hb,q1];exact ⟨h2',rfl,q2⟩
 case load t a=>
  obtain ⟨hl2,rfl⟩:=zH hl;rw [zoR (λb hb=>hag b (.inl hb)),hl2];exact ⟨h2,rfl,zD.refl hn⟩
 case store t a x=>
  obtain ⟨hl2,rfl⟩:=zbO hl;obtain ⟨h2',q1,q2⟩:=znv hn (λb hb=>hag b (.inr hb)) hl2;rw [q1];exact ⟨h2',rfl,q2⟩
 case nilCheck x=>
  unfold zdC at hl ⊢;split at hl<;>cases hl<;>exact ⟨h2,rfl,zD.refl hn⟩
 case binOp op t x y yt=>
  obtain ⟨hl2,rfl⟩:=zH hl;exact ⟨h2,by rw [hl2]; rfl,zD.refl hn⟩
 case unOp op t x=>
  obtain ⟨hl2,rfl⟩:=zH hl;exact ⟨h2,by rw [hl2]; rfl,zD.refl hn⟩
 case convert src dst x=>
  obtain ⟨hl2,rfl⟩:=zH hl;exact ⟨h2,by rw [hl2]; rfl,zD.refl hn⟩
 case typeAssert x xt a c=>
  obtain ⟨hl2,rfl⟩:=zH hl;exact ⟨h2,by rw [hl2]; rfl,zD.refl hn⟩
 case makeInterface t x=>
  unfold zcV at hl ⊢;split at hl<;>cases hl;exact ⟨h2,rfl,zD.refl hn⟩
 case makeFunc fn first captured=>
  unfold zdD at hl ⊢;split at hl<;>cases hl;exact ⟨h2,rfl,zD.refl hn⟩
 case makeMap t r=>
  unfold ze4 at hl ⊢;split at hl<;>cases hl;rw [hn];exact ⟨_,rfl,zD.push hn _⟩
 case makeSlice t l c=>
  have hl2:=za6 hl;unfold zeK at hl2 ⊢;split at hl2
  case h_2=>cases hl2
  split at hl2
  case h_2=>cases hl2
  split at hl2
  case isFalse=>cases hl2
  rename_i hb;obtain ⟨h2',q1,q2⟩:=zhK hn hl2;rw [if_pos hb,q1];exact ⟨h2',rfl,q2⟩
 case slice t x lo hi mx=>
  obtain ⟨hl2,rfl⟩:=zH hl;exact ⟨h2,by rw [hl2]; rfl,zD.refl hn⟩
 case fieldAddr s x f=>
  obtain ⟨hl2,rfl⟩:=zH hl;exact ⟨h2,by rw [hl2]; rfl,zD.refl hn⟩
 case field t x f=>
  obtain ⟨hl2,rfl⟩:=zH hl;exact ⟨h2,by rw [hl2]; rfl,zD.refl hn⟩
 case indexAddr t x ix=>
  obtain ⟨hl2,rfl⟩:=zH hl;exact ⟨h2,by rw [hl2]; rfl,zD.refl hn⟩
 case index t x ix=>
  obtain ⟨hl2,rfl⟩:=zH hl;exact ⟨h2,by rw [hl2]; rfl,zD.refl hn⟩
 case lookup t x ix b=>
  obtain ⟨hl2,rfl⟩:=zH hl;rw [zmd (λb hb=>hag b (.inl hb)),hl2];exact ⟨h2,rfl,zD.refl hn⟩
 case mapUpdate t m k x=>
  obtain ⟨hl2,rfl⟩:=zbO hl;obtain ⟨h2',q1,q2⟩:=zg2 hn (λb hb=>hag b (.inr hb)) hl2;rw [q1];exact ⟨h2',rfl,q2⟩
 case insert t m k x=>
  obtain ⟨hl2,rfl⟩:=zbO hl;obtain ⟨h2',q1,q2⟩:=zg2 hn (λb hb=>hag b (.inr hb)) hl2;rw [q1];exact ⟨h2',rfl,q2⟩
 case mapEntry t m k=>
  obtain ⟨h2',q1,q2⟩:=zkj hn (λb hb=>hag b (.inr hb)) (za6 hl);rw [q1];exact ⟨h2',rfl,q2⟩
 case entryStore t m s x=>
  obtain ⟨hl2,rfl⟩:=zbO hl;obtain ⟨h2',q1,q2⟩:=ziX hn (λb hb=>hag b (.inr hb)) hl2;rw [q1];exact ⟨h2',rfl,q2⟩
 case extract t i=>
  unfold zfN at hl ⊢;split at hl
  . obtain ⟨hl2,rfl⟩:=zH hl;exact ⟨h2,by rw [hl2]; rfl,zD.refl hn⟩
  . cases hl
 case call c=>
  unfold zc4 at hl ⊢;cases hc:c.callee<;>rw [hc] at hl<;>simp only [hc] at hag<;>simp only at hl ⊢<;>(try (cases hl; done));rename_i b;generalize hxs:c.args.toList.map ev=xs at hl hag ⊢;unfold abuiltin at hl ⊢;split at hl
  . split at hl
    case h_2=>cases hl
    obtain ⟨hl2,rfl⟩:=zH hl;rw [zqU (λb hb=>hag b (.inl (by simpa using hb))),hl2];exact ⟨h2,rfl,zD.refl hn⟩
  . split at hl
    case h_2=>cases hl
    obtain ⟨hl2,rfl⟩:=zH hl;rw [hl2];exact ⟨h2,rfl,zD.refl hn⟩
  . have hl2:=za6 hl;obtain ⟨h2',q1,q2⟩:=zme hn (λb hb=>hag b (.inr (by simpa using hb))) (λb hb=>hag b (.inl (by simpa using hb))) hl2;rw [q1];exact ⟨h2',rfl,q2.mono (λx hx=>by simpa using hx)⟩
  . have hl2:=za6 hl;obtain ⟨h2',q1,q2⟩:=zoS hn (λb hb=>hag b (.inr (by simpa using hb))) (λb hb=>hag b (.inl (by simpa using hb))) hl2;rw [q1];exact ⟨h2',rfl,q2.mono (λx hx=>by simpa using hx)⟩
  . obtain ⟨hl2,rfl⟩:=zH hl;exact ⟨h2,by rw [hl2]; rfl,zD.refl hn⟩
  . obtain ⟨hl2,rfl⟩:=zH hl;exact ⟨h2,by rw [hl2]; rfl,zD.refl hn⟩
  . cases hl
theorem zil {ev ev':Operand->zb} (ps:List (Nat×Operand)) (h:∀ x∈ps.map (·.2),ev x=ev' x):zdq ev ps=zdq ev' ps:=by
 unfold zdq;exact List.map_congr_left (λp hp=>by rw [h p.2 (List.mem_map.2 ⟨p,hp,rfl⟩)])
theorem ziY {ev ev':Operand->zb} (o:Option Operand) (h:∀ x∈o.toArray.toList,ev x=ev' x):o.map ev=o.map ev':=by
 cases o with
 | none=>rfl
 | some x=>simp [h x Ol]
theorem zrV {ev ev':Operand->zb} {op:Op} (h:∀ x∈op.operands.toList,ev x=ev' x) (h1:za):aop T ev h1 op=aop T ev' h1 op:=by
 cases op<;>simp only [aop]<;>(try rfl)
 case move x=>rw [h x Oi]
 case assign x=>rw [h x Oi]
 case pick c a b=>unfold zie; rw [h c Oi,h a Oi,h b Oi]
 case box t x=>unfold zj7; rw [h x Oi]
 case build t ps=>rw [zil ps.toList (by simpa [Op.operands] using h)]
 case buildSlice t n ps=>rw [zil ps.toList (by simpa [Op.operands] using h)]
 case load t a=>rw [h a Oi]
 case store t a x=>rw [h a Oi,h x Oi]
 case nilCheck x=>rw [h x Oi]
 case binOp o t x y yt=>rw [h x Oi,h y Oi]
 case unOp o t x=>rw [h x Oi]
 case convert a b x=>rw [h x Oi]
 case typeAssert x xt a c=>rw [h x Oi]
 case makeInterface t x=>rw [h x Oi]
 case makeFunc fn first captured=>
  have h':∀ x,x∈first.toList\/x∈captured.toList->ev x=ev' x:=λx hx=>h x (by simpa [Op.operands] using hx);rw [show zdD ev h1 fn first.toList captured.toList=zdD ev' h1 fn first.toList captured.toList from by
   unfold zdD;rw [List.map_congr_left (λx hx=>h' x (.inl hx)),List.map_congr_left (λx hx=>h' x (.inr hx))]]
 case makeMap t r=>
  unfold ze4;cases r with
  | none=>rfl
  | some x=>simp only [h x Oi]
 case makeSlice t l c=>rw [h l Oi,h c Oi]
 case slice t x lo hi mx=>
  have h':∀ y,y=x\/y∈lo.toArray.toList\/y∈hi.toArray.toList\/y∈mx.toArray.toList->ev y=ev' y:=λy hy=>h y (by
   simp only [Op.operands,Array.toList_append,List.mem_append];rcases hy with rfl | hy | hy | hy
   . exact .inl (.inl (.inl Ol))
   . exact .inl (.inl (.inr hy))
   . exact .inl (.inr hy)
   . exact .inr hy)
  rw [h' x (.inl rfl),ziY lo (λy hy=>h' y (.inr (.inl hy))),ziY hi (λy hy=>h' y (.inr (.inr (.inl hy)))),ziY mx (λy hy=>h' y (.inr (.inr (.inr hy))))]
 case fieldAddr s x f=>rw [h x Oi]
 case field t x f=>rw [h x Oi]
 case indexAddr t x ix=>rw [h x Oi,h ix Oi]
 case index t x ix=>rw [h x Oi,h ix Oi]
 case lookup t x ix b=>rw [h x Oi,h ix Oi]
 case mapUpdate t m k x=>rw [h m Oi,h k Oi,h x Oi]
 case insert t m k x=>rw [h m Oi,h k Oi,h x Oi]
 case mapEntry t m k=>rw [h m Oi,h k Oi]
 case entryStore t m s x=>rw [h m Oi,h s Oi,h x Oi]
 case extract t i=>rw [h t Oi]
 case call c=>
  have h':∀ x,x∈c.operands.toList->ev x=ev' x:=λx hx=>h x (by simpa [Op.operands] using hx);have ha:c.args.toList.map ev=c.args.toList.map ev':=List.map_congr_left (λx hx=>h' x (by simp only [Call.operands,Array.toList_append,List.mem_append]; exact .inr hx));unfold zc4;cases hc:c.callee with
  | builtin b=>simp only [ha]
  | value f=>simp only [ha,h' f (by simp [Call.operands,hc])]
  | invoke r m=>rfl
end
def preds (ops:Array Oper) (S:Nat->Prop) (i:Nat):Prop:=∀ o,ops[i]?=Ob o->∀ e∈o.after.toList,Region.binds .any e=Od->S e.on
inductive Sched (ops:Array Oper):(Nat->Prop)->List Nat->Prop where
 | nil (S:Nat->Prop) (h:∀ i,i<ops.size->S i):Sched ops S []
 | cons (S:Nat->Prop) (i:Nat) (l:List Nat) (hi:i<ops.size) (hn:¬ S i) (hp:preds ops S i) (h:Sched ops (λx=>S x\/x=i) l):Sched ops S (i::l)
theorem Sched.congr {ops:Array Oper} {S S':Nat->Prop} {l:List Nat} (h:Sched ops S l) (e:∀ x,S x↔S' x):Sched ops S' l:=by
 have:S=S':=funext λx=>propext (e x);exact this▸h
theorem zju:∀ (os:List Oper) (k:Nat),zhU os k=Od->∀ (i:Nat) o,os[i]?=Ob o->∀ e∈o.after.toList,Region.binds .any e=Od->e.on<k+i
 | [],k,_,i,o,ho,e,_,_=>by simp at ho
 | x::xs,k,h,i,o,ho,e,he,hb=>by
  simp only [zhU,Bool.and_eq_true] at h;cases i with
  | zero=>
   simp at ho; subst ho;have:=Array.all_eq_true_iff_forall_mem.1 h.1 e (by simpa using he);rw [hb] at this;simpa using this
  | succ i=>
   have:=zju xs (k+1) h.2 i o (by simpa using ho) e he hb;omega
theorem zuv {ops:Array Oper} (hedge:zhU ops.toList 0=Od):∀ (fuel t:Nat) (listed:Array Bool),listed.size=ops.size->listed.toList.count Oc<=fuel ->
    Sched ops (λi=>listed.getD i Oc=Od) (Region.linearise.go .any ops fuel t listed []):=by
  intro fuel;induction fuel with
  | zero=>
    intro t listed hsz hc;simp only [Region.linearise.go,List.reverse_nil];refine .nil _ (λi hi=>?_);have hlt:i<listed.size:=J
    have hno:Oc∉listed.toList:=by
      intro hm;have:=List.count_pos_iff.2 hm;omega
    have hv:listed[i]=Od:=by
      cases hb:listed[i] with
      | true=>rfl
      | false=>exact absurd (by rw [← hb]; exact Array.getElem_mem_toList hlt) hno
    simp [Array.getD,hlt,hv]
  | succ fuel ih=>
    intro t listed hsz hc;simp only [Region.linearise.go];change Sched ops _ (match (Region.ready .any ops listed)[t%(Region.ready .any ops listed).length]? with
      | some i=>Region.linearise.go .any ops fuel (t/(Region.ready .any ops listed).length) (listed.setIfInBounds i Od) [i]
      | none=>[].reverse)
    cases hi:(Region.ready .any ops listed)[t%(Region.ready .any ops listed).length]? with
    | none=>
      have hnil:Region.ready .any ops listed=[]:=by
        cases hr:Region.ready .any ops listed with
        | nil=>rfl
        | cons x xs=>
          rw [hr] at hi;have hlt:t%(x::xs).length<(x::xs).length:=Nat.mod_lt _ Ol;simp at hi;simp at hlt;omega
      simp only [List.reverse_nil];refine .nil _ ?_;intro i;induction i using Nat.strongRecOn with
      | _ i ihi=>
        intro hi';have hlt:i<listed.size:=J
        cases hb:listed.getD i Oc with
        | true=>rfl
        | false=>
          exfalso;have hmem:i∈Region.ready .any ops listed:=by
            rw [mem_ready];refine ⟨?_,ops[i],Array.getElem?_eq_getElem hi',λe he heb=>?_⟩
            · simp [Array.getD,hlt] at hb ⊢; exact hb
            · have hlt2:=zju ops.toList 0 hedge i ops[i] Ol e (by simpa using he) heb;exact ihi e.on J J
          rw [hnil] at hmem;cases hmem
    | some i=>
      have hmem:=List.mem_of_getElem? hi;rw [mem_ready] at hmem;obtain ⟨h0,o,ho,hall⟩:=hmem;have hlt:i<ops.size:=(Array.getElem?_eq_some_iff.1 ho).1;have hlt2:i<listed.size:=J
      simp only [];rw [linearise_go_acc,List.reverse_singleton,List.singleton_append];have hfalse:listed[i]=Oc:=by simpa [Array.getD,hlt2] using h0
      refine .cons _ i _ hlt (by simp [Array.getD,hlt2,hfalse]) ?_ ?_
      · intro o' ho' e he hb;rw [ho] at ho'; cases ho';exact hall e (by simpa using he) hb
      · refine (ih (t/(Region.ready .any ops listed).length) (listed.setIfInBounds i Od) (by simpa using hsz) ?_).congr ?_
        · have hcs:(listed.setIfInBounds i Od).toList.count Oc=listed.toList.count Oc-1:=by
            rw [Array.toList_setIfInBounds,List.count_set (by simpa using hlt2)];simp [hfalse]
          omega
        · intro x;by_cases hx:x=i
          · subst hx; simp [Array.getD,hlt2]
          · rw [getD_set_ne Oc (λq=>hx q.symm)]; simp [hx]
theorem zk8 {ops:Array Oper} (hedge:zhU ops.toList 0=Od) (t:Nat):Sched ops (λ_=>False) (Region.schedule Od ops t):=by
 have h:=zuv hedge ops.size t (Array.replicate ops.size Oc) Ol (by
  rw [Array.toList_replicate,List.count_replicate]; simp)
 refine Sched.congr (S:=_) (by simpa [Region.schedule,Region.linearise] using h) (λx=>?_);constructor
 . intro hx;have hx':(Array.replicate ops.size Oc)[x]?.getD Oc=Od:=hx;rw [Array.getElem?_replicate] at hx';split at hx'<;>simp at hx'
 . exact False.elim
def Closed (ops:Array Oper) (S:Nat->Prop):Prop:=∀ i,S i->preds ops S i
theorem zlA {ops:Array Oper} {S:Nat->Prop} (hc:Closed ops S):∀ (k:Nat) (todo seen:List Nat),(∀ x∈seen,S x)->(∀ x∈todo,preds ops S x)->∀ x∈before ops.toList k todo seen,S x
 | 0,todo,seen,hs,_,x,hx=>hs x hx
 | k+1,[],seen,hs,_,x,hx=>hs x hx
 | k+1,j::todo,seen,hs,ht,x,hx=>by
  have hpre:=ht j (List.mem_cons_self ..);simp only [before] at hx;have hnews:∀ y∈((match ops.toList[j]? with
   | some o=>(o.after.toList.filter (Region.binds .any)).map (λ(e:Edge)=>e.on)
   | none=>[]).filter λi=>!seen.contains i),S y:=by
   intro y hy;have hy:=(List.mem_filter.1 hy).1;cases ho:ops.toList[j]? with
   | none=>rw [ho] at hy; cases hy
   | some o=>
    rw [ho] at hy;obtain ⟨e,he,rfl⟩:=List.mem_map.1 hy;obtain ⟨he1,he2⟩:=List.mem_filter.1 he;exact hpre o (by simpa using ho) e he1 he2
  refine zlA hc k _ _ ?_ ?_ x hx
  ·intro y hy;rcases List.mem_append.1 hy with hy | hy
   ·exact hnews y hy
   ·exact hs y hy
  ·intro y hy;rcases List.mem_append.1 hy with hy | hy
   ·exact hc y (hnews y hy)
   ·exact ht y (List.mem_cons_of_mem _ hy)
theorem zeq {ops:Array Oper} {S:Nat->Prop} (hc:Closed ops S) {i j:Nat} (hp:preds ops S i) (hj:j∈zcA ops.toList i):S j:=
 zlA hc _ [i] [] (λx hx=>by cases hx) (λx hx=>by simp at hx; subst hx; exact hp) j hj
theorem zga (all:List Oper):∀ (os:List Oper) (k:Nat),ziO all os k=Od->∀ (i:Nat) o,os[i]?=Ob o->∀ (j:Nat) a,j<k+i->all[j]?=Ob a->zfE all a o=Od\/j∈zcA all (k+i)
 | [],k,_,i,o,ho,_,_,_,_=>by simp at ho
 | x::xs,k,h,i,o,ho,j,a,hj,ha=>by
  simp only [ziO,Bool.and_eq_true] at h;cases i with
  | zero=>
   simp at ho; subst ho;have h1:=h.1;split at h1
   ·rename_i hq;have:=List.all_eq_true.1 hq j (List.mem_range.2 J);rw [ha] at this;exact .inl this
   ·have:=List.all_eq_true.1 h1 j (List.mem_range.2 J);rw [ha] at this;simp only [Bool.or_eq_true] at this;rcases this with q | q
    ·exact .inl q
    ·right; simpa using q
  | succ i=>
   have:=zga all xs (k+1) h.2 i o (by simpa using ho) j a J ha;rw [show k+(i+1)=k+1+i from by omega];exact this
section
variable {T:Tab} {call:Caller}
structure zoT (T:Tab) (call:Caller) (os:List Oper) (st:Nat->zg×za) (vl:Nat->zb) (ft:Nat->Foot) (ex:Nat->Bool) (i:Nat) (done:List (Nat×Foot)):Prop where
 step:∀ k o,i<=k->os[k]?=Ob o ->
  (ex k=Oc/\awanted os (st k).1 o.guard=Ob Oc/\vl k=unit/\st (k+1)=(putDst (st k).1 o.dst unit,(st k).2)) \/
  (ex k=Od/\awanted os (st k).1 o.guard=Ob Od/\∃ h',astep T call (st k).1.op o.op { (st k).2 with wm:=(st k).2.next }=Ob (.ret (vl k),h') /\
   ft k=zf9 (foot (st k).1.op o) (st k).2 h'/\st (k+1)=(putDst (st k).1 o.dst (vl k),{ h' with wm:=min (st k).2.wm h'.wm }))
 apart:∀ j k,i<=j->j<k->k<os.length->ex k=Od->ex j=Od->(ft j).apart (ft k)=Od\/j∈zcA os k
 apartD:∀ p∈done,∀ k,i<=k->k<os.length->ex k=Od->p.2.apart (ft k)=Od\/p.1∈zcA os k
theorem zny {os:List Oper} {j:Nat} {f:Foot} {done:List (Nat×Foot)} (h:zcL os j f done=Od):∀ p∈done,p.2.apart f=Od\/p.1∈zcA os j:=by
 intro p hp;unfold zcL at h;split at h
 . rename_i hq;exact .inl (List.all_eq_true.1 hq p hp)
 . have:=List.all_eq_true.1 h p hp;simp only [Bool.or_eq_true] at this;rcases this with q | q
   . exact .inl q
   . right; simpa using q
theorem zhY {os:List Oper}:∀ (rest:List Oper) (i:Nat) (done:List (Nat×Foot)) (fr:zg) (h:za) (fr':zg) (h':za),os.drop i=rest->adraw T call os rest i done fr h=Ob (fr',h') ->
    ∃ st vl ft ex,st i=(fr,h)/\zoT T call os st vl ft ex i done/\st (i+rest.length)=(fr',h')
  | [],i,done,fr,h,fr',h',hd,hl=>by
    simp only [adraw] at hl;cases hl;have hlen:os.length<=i:=by
      have:=congrArg List.length hd;simp at this; omega
    refine ⟨λ_=>(fr,h),λ_=>unit,λ_=>⟨[],Oc,[],Oc⟩,λ_=>Oc,rfl,⟨?_, ?_, ?_⟩,rfl⟩
    · intro k o hk ho;have:=(List.getElem?_eq_some_iff.1 ho).1;omega
    · intro j k _ _ _ he; cases he
    · intro p _ k _ _ he; cases he
  | o::rest,i,done,fr,h,fr',h',hd,hl=>by
    have hoi:os[i]?=Ob o:=by
      have:=congrArg (λl=>l[0]?) hd;simpa [List.getElem?_drop] using this
    have hd2:os.drop (i+1)=rest:=by
      have:=congrArg (λl=>l.drop 1) hd;simpa [List.drop_drop] using this
    simp only [adraw] at hl;split at hl
    · rename_i hw;split at hl
      · rename_i v h1 hs;cases hf:zcL os i (zf9 (foot fr.op o) h h1) done with
        | false=>rw [hf] at hl; cases hl
        | true=>
          rw [hf] at hl;simp only [cond_true] at hl;obtain ⟨st,vl,ft,ex,s1,s2,s3⟩:=zhY rest (i+1) _ _ _ fr' h' hd2 hl;refine ⟨λk=>if k=i then (fr,h) else st k,λk=>if k=i then v else vl k,λk=>if k=i then zf9 (foot fr.op o) h h1 else ft k,λk=>if k=i then Od else ex k,by simp,⟨?_, ?_, ?_⟩, ?_⟩
          · intro k o' hk ho';by_cases e:k=i
            · subst e;rw [hoi] at ho'; cases ho';right;simp only [if_true,if_neg (show ¬ (k+1=k) by omega)];exact ⟨trivial,hw,h1,hs,rfl,s1⟩
            · simp only [if_neg e,if_neg (show ¬ (k+1=i) by omega)];exact s2.step k o' J ho'
          · intro j k hj hjk hk hek hej;simp only [if_neg (show ¬ k=i by omega)] at hek ⊢;by_cases e:j=i
            · subst e;simp only [if_true];exact s2.apartD (j,_) (List.mem_cons_self ..) k J hk hek
            · simp only [if_neg e] at hej ⊢;exact s2.apart j k J hjk hk hek hej
          · intro p hp k hk hkl hek;by_cases e:k=i
            · subst e;simp only [if_true];exact zny hf p hp
            · simp only [if_neg e] at hek ⊢;exact s2.apartD p (List.mem_cons_of_mem _ hp) k J hkl hek
          · show (if i+(o::rest).length=i then (fr,h) else st (i+(o::rest).length))=_;rw [if_neg Ol,show i+(o::rest).length=i+1+rest.length from by simp; omega];exact s3
      · cases hl
    · rename_i hw;obtain ⟨st,vl,ft,ex,s1,s2,s3⟩:=zhY rest (i+1) _ _ _ fr' h' hd2 hl;refine ⟨λk=>if k=i then (fr,h) else st k,λk=>if k=i then unit else vl k,ft,λk=>if k=i then Oc else ex k,by simp,⟨?_, ?_, ?_⟩, ?_⟩
      · intro k o' hk ho';by_cases e:k=i
        · subst e;rw [hoi] at ho'; cases ho';left;simp only [if_true,if_neg (show ¬ (k+1=k) by omega)];exact ⟨trivial,hw,trivial,s1⟩
        · simp only [if_neg e,if_neg (show ¬ (k+1=i) by omega)];exact s2.step k o' J ho'
      · intro j k hj hjk hk hek hej;simp only [if_neg (show ¬ k=i by omega)] at hek;by_cases e:j=i
        · subst e; simp at hej
        · simp only [if_neg e] at hej;exact s2.apart j k J hjk hk hek hej
      · intro p hp k hk hkl hek;by_cases e:k=i
        · subst e; simp at hek
        · simp only [if_neg e] at hek;exact s2.apartD p hp k J hkl hek
      · show (if i+(o::rest).length=i then (fr,h) else st (i+(o::rest).length))=_;rw [if_neg Ol,show i+(o::rest).length=i+1+rest.length from by simp; omega];exact s3
    · cases hl
theorem zmf {ev:Operand->zb} {o:Oper} {h:za} {v:zb} {h':za} (hl:aop T ev h o.op=Ob (.val v h')):(foot ev o).rall=Oc/\(foot ev o).wall=Oc:=by
 unfold foot;cases ho:o.op<;>try exact ⟨rfl,rfl⟩
 rename_i c;rw [ho] at hl;simp only [aop,zc4] at hl;cases hc:c.callee with
 | builtin b=>simp only [hc]; cases b<;>simp
 | value f=>rw [hc] at hl; cases hl
 | invoke r m=>rw [hc] at hl; cases hl
theorem zim {ev:Operand->zb} {o:Oper} {h:za} {f:zb} {as:List zb} (hl:aop T ev h o.op=Ob (.call f as)):foot ev o=⟨[],Od,[],Oc⟩:=by
 obtain ⟨c,fo,h1,h2,_⟩:=zc5 hl;unfold foot;rw [h1];simp only [h2]
end
open Classical
theorem H0.congr {base:Nat} {V:Emb} {h h2:za} {w:World} (hr:H0 base V h w) (e:∀ b l,V b=Ob l->h2.get b=h.get b):H0 base V h2 w:=by
 have ow:∀ b l,V b=Ob l->(Owns h2 b↔Owns h b):=λb l hb=>by unfold Owns; rw [e b l hb]
 have al:∀ b l,V b=Ob l->(Alive h2 b↔Alive h b):=λb l hb=>by unfold Alive; rw [e b l hb]
 exact ⟨hr.clt,λb l hb=>by rw [e b l hb]; exact hr.blk b l hb,λb b' l l' hb hb' hn ho ha=>hr.inj b b' l l' hb hb' hn ((ow b l hb).1 ho) ((al b' l' hb').1 ha),hr.base⟩
structure Core (V:Emb) (h:za) (w:World) (V':Emb) (h':za) (w':World):Prop where
 ext:Ext V V'
 size:w.heap.size<=w'.heap.size
 frame:∀ k,k<w.heap.size->(∀ b l,V b=Ob l->Owns h b->l.c≠k)->w'.heap[k]?=w.heap[k]?
 own:∀ b l,V' b=Ob l->Alive h' b->(V b=Ob l/\Alive h b/\(Owns h' b->Owns h b))\/w.heap.size<=l.c\/∃ b0 l0,V b0=Ob l0/\Owns h b0/\l0.c=l.c
 os:w'.os=w.os
 tape:w'.tape=w.tape
 output:w'.output=w.output
 loops:∀ b l L,V b=Ob l->h.get b=Ob (.loop L)->∃ L',h'.get b=Ob (.loop L')/\zj9 L L'
theorem Trans.core {V V':Emb} {h h':za} {w w':World} (t:Trans V h w V' h' w'):Core V h w V' h' w':=⟨t.ext,t.size,t.frame,t.own,t.os,t.tape,t.output,t.loops⟩
theorem Core.refl (V:Emb) (h:za) (w:World):Core V h w V h w:=(Trans.refl V h w).core
theorem Core.trans {V V₁ V₂:Emb} {h h₁ h₂:za} {w w₁ w₂:World} (a:Core V h w V₁ h₁ w₁) (b:Core V₁ h₁ w₁ V₂ h₂ w₂):Core V h w V₂ h₂ w₂:=by
 refine ⟨a.ext.trans b.ext,Nat.le_trans a.size b.size,λk hk hb=>?_,λb' l hb' ho=>?_,b.os.trans a.os,b.tape.trans a.tape,b.output.trans a.output,
  λb' l L hb hg=>let ⟨L1,h1,s1⟩:=a.loops b' l L hb hg; let ⟨L2,h2,s2⟩:=b.loops b' l L1 (a.ext _ _ hb) h1; ⟨L2,h2,s1.trans s2⟩⟩
 . rw [b.frame k (Nat.lt_of_lt_of_le hk a.size) ?_,a.frame k hk hb];intro b1 l1 hb1 ho1 e;rcases a.own b1 l1 hb1 ho1.alive with ⟨h0,_,h2⟩ | h1 | ⟨b0,l0,h0,ho0,e0⟩
   . exact hb b1 l1 h0 (h2 ho1) e
   . omega
   . exact hb b0 l0 h0 ho0 (e0.trans e)
 . rcases b.own b' l hb' ho with ⟨h1,h2,h3⟩ | h1 | ⟨b1,l1,h1,ho1,e1⟩
   . rcases a.own b' l h1 h2 with ⟨g1,g2,g3⟩ | g1 | g1
     . exact .inl ⟨g1,g2,λq=>g3 (h3 q)⟩
     . exact .inr (.inl g1)
     . exact .inr (.inr g1)
   . exact .inr (.inl (Nat.le_trans a.size h1))
   . rcases a.own b1 l1 h1 ho1.alive with ⟨g1,g2,g3⟩ | h2 | ⟨b0,l0,h0,ho0,e0⟩
     . exact .inr (.inr ⟨b1,l1,g1,g3 ho1,e1⟩)
     . exact .inr (.inl (by rw [← e1]; exact h2))
     . exact .inr (.inr ⟨b0,l0,h0,ho0,e0.trans e1⟩)
theorem Core.congr {V V':Emb} {h h' g g':za} {w w':World} (t:Core V h w V' h' w') (e:∀ b l,V b=Ob l->g.get b=h.get b) (e':∀ b l,V' b=Ob l->g'.get b=h'.get b):Core V g w V' g' w':=by
 have ow:∀ b l,V b=Ob l->(Owns g b↔Owns h b):=λb l hb=>by unfold Owns; rw [e b l hb]
 have al:∀ b l,V b=Ob l->(Alive g b↔Alive h b):=λb l hb=>by unfold Alive; rw [e b l hb]
 have ow':∀ b l,V' b=Ob l->(Owns g' b↔Owns h' b):=λb l hb=>by unfold Owns; rw [e' b l hb]
 have al':∀ b l,V' b=Ob l->(Alive g' b↔Alive h' b):=λb l hb=>by unfold Alive; rw [e' b l hb]
 refine ⟨t.ext,t.size,λk hk hb=>t.frame k hk (λb l h1 h2=>hb b l h1 ((ow b l h1).2 h2)),λb l hb ha=>?_,t.os,t.tape,t.output,λb l L hb hg=>?_⟩
 . rcases t.own b l hb ((al' b l hb).1 ha) with ⟨h1,h2,h3⟩ | h1 | ⟨b0,l0,h1,h2,h3⟩
   . exact .inl ⟨h1,(al b l h1).2 h2,λq=>(ow b l h1).2 (h3 ((ow' b l hb).1 q))⟩
   . exact .inr (.inl h1)
   . exact .inr (.inr ⟨b0,l0,h1,(ow b0 l0 h1).2 h2,h3⟩)
 . rw [e b l hb] at hg;obtain ⟨L',h1,h2⟩:=t.loops b l L hb hg;exact ⟨L',by rw [e' b l (t.ext _ _ hb)]; exact h1,h2⟩
theorem zwl (g:Nat->Option zf8) (nx:Nat):∀ B:Nat,∃ h:za,h.next=nx/\∀ b,h.get b=if b<B then g b else Oe
 | 0=>⟨⟨.leaf,nx,0⟩,rfl,λb=>by simp [za.get,Tr.get]⟩
 | B+1=>by
  obtain ⟨h,h1,h2⟩:=zwl g nx B;cases hg:g B with
  | none=>
   refine ⟨h,h1,λb=>?_⟩;rw [h2];by_cases e:b=B
   ·subst e; simp [hg]
   ·by_cases q:b<B
    ·rw [if_pos q,if_pos J]
    ·rw [if_neg q,if_neg J]
  | some x=>
   refine ⟨h.set B x,h1,λb=>?_⟩;rw [za.get_set,h2];by_cases e:b=B
   ·subst e; simp [hg]
   ·rw [if_neg e];by_cases q:b<B
    ·rw [if_pos q,if_pos J]
    ·rw [if_neg q,if_neg J]
section
variable (os:List Oper) (st:Nat->zg×za) (vl:Nat->zb)
def zgM (m:Nat):Option Nat:=(os[m]?).bind (λ(o:Oper)=>o.dst)
def fcont (S:Nat->Prop):Nat->Nat->zb
 | 0,t=>(st 0).1.ev t
 | m+1,t=>if S m/\zgM os m=Ob t then vl m else fcont S m t
def Chg (m b:Nat):Prop:=b<(st (m+1)).2.next/\((st m).2.next<=b\/(st (m+1)).2.get b≠(st m).2.get b)
def hcont (S:Nat->Prop):Nat->Nat->Option zf8
 | 0,b=>(st 0).2.get b
 | m+1,b=>if S m/\Chg st m b then (st (m+1)).2.get b else hcont S m b
variable {os st vl}
theorem ziZ {S:Nat->Prop} {t:Nat}:∀ (i:Nat),(∀ m,m<i->(st (m+1)).1.ev t=if zgM os m=Ob t then vl m else (st m).1.ev t)->(∀ m,m<i->zgM os m=Ob t->S m)->fcont os st vl S i t=(st i).1.ev t
 | 0,_,_=>rfl
 | i+1,hs,h=>by
  simp only [fcont];rw [hs i J,ziZ i (λm hm=>hs m J) (λm hm=>h m J)];by_cases e:zgM os i=Ob t
  . rw [if_pos ⟨h i J e,e⟩,if_pos e]
  . rw [if_neg (λq=>e q.2),if_neg e]
theorem zlB {S:Nat->Prop} {t i:Nat}:∀ (N:Nat),i<=N->(∀ m,i<=m->m<N->S m->zgM os m≠Ob t)->fcont os st vl S N t=fcont os st vl S i t
  | 0,hi,_=>by
      have:i=0:=J
      subst this; rfl
  | N+1,hi,h=>by
    by_cases e:i=N+1
    · rw [e]
    · simp only [fcont];rw [if_neg (λq=>h N J J q.1 q.2)];exact zlB N J (λm h1 h2=>h m h1 J)
theorem zkk {S:Nat->Prop} {i t:Nat} (hi:¬ S i):∀ (N:Nat),(zgM os i≠Ob t->fcont os st vl (λx=>S x\/x=i) N t=fcont os st vl S N t) /\
    (zgM os i=Ob t->i<N->(∀ m,i<m->m<N->S m->zgM os m≠Ob t)->fcont os st vl (λx=>S x\/x=i) N t=vl i)
  | 0=>⟨λ_=>rfl,λ_ h=>by omega⟩
  | N+1=>by
    obtain ⟨h1,h2⟩:=zkk hi N;refine ⟨λhd=>?_,λhd hN hm=>?_⟩
    · simp only [fcont];rw [h1 hd];by_cases e:N=i
      · subst e;rw [if_neg (λq=>hd q.2),if_neg (λq=>hd q.2)]
      · by_cases q:S N/\zgM os N=Ob t
        · rw [if_pos ⟨.inl q.1,q.2⟩,if_pos q]
        · rw [if_neg (λq2=>q ⟨q2.1.resolve_right e,q2.2⟩),if_neg q]
    · simp only [fcont];by_cases e:N=i
      · subst e; rw [if_pos ⟨.inr rfl,hd⟩]
      · rw [if_neg (λq=>hm N J J (q.1.resolve_right e) q.2)];exact h2 hd J (λm a b=>hm m a J)
theorem zi0 {S:Nat->Prop} {b:Nat}:∀ (i:Nat),(b<(st i).2.next)->(∀ m,m<i->(st m).2.next<=(st (m+1)).2.next)->(∀ m,m<i->Chg st m b->S m)->hcont st S i b=(st i).2.get b
 | 0,_,_,_=>rfl
 | i+1,hb,hmono,h=>by
  simp only [hcont];by_cases c:Chg st i b
  . rw [if_pos ⟨h i J c,c⟩]
  . rw [if_neg (λq=>c q.2)];unfold Chg at c;have c1:b<(st i).2.next:=by
     by_cases q:b<(st i).2.next
     . exact q
     . exact absurd ⟨hb,.inl J⟩ c
    have c2:(st (i+1)).2.get b=(st i).2.get b:=by
     by_cases q:(st (i+1)).2.get b=(st i).2.get b
     . exact q
     . exact absurd ⟨hb,.inr q⟩ c
    rw [zi0 i c1 (λm hm=>hmono m J) (λm hm=>h m J),c2]
theorem zlC {S:Nat->Prop} {b i:Nat}:∀ (N:Nat),i<=N->(∀ m,i<=m->m<N->S m->¬ Chg st m b)->hcont st S N b=hcont st S i b
  | 0,hi,_=>by
      have:i=0:=J
      subst this; rfl
  | N+1,hi,h=>by
    by_cases e:i=N+1
    · rw [e]
    · simp only [hcont];rw [if_neg (λq=>h N J J q.1 q.2)];exact zlC N J (λm h1 h2=>h m h1 J)
theorem zer {S:Nat->Prop} {i b:Nat} (hi:¬ S i):∀ (N:Nat),(¬ Chg st i b->hcont st (λx=>S x\/x=i) N b=hcont st S N b) /\
    (Chg st i b->i<N->(∀ m,i<m->m<N->S m->¬ Chg st m b)->hcont st (λx=>S x\/x=i) N b=(st (i+1)).2.get b)
  | 0=>⟨λ_=>rfl,λ_ h=>by omega⟩
  | N+1=>by
    obtain ⟨h1,h2⟩:=zer hi N;refine ⟨λhd=>?_,λhd hN hm=>?_⟩
    · simp only [hcont];rw [h1 hd];by_cases e:N=i
      · subst e;rw [if_neg (λq=>hd q.2),if_neg (λq=>hd q.2)]
      · by_cases q:S N/\Chg st N b
        · rw [if_pos ⟨.inl q.1,q.2⟩,if_pos q]
        · rw [if_neg (λq2=>q ⟨q2.1.resolve_right e,q2.2⟩),if_neg q]
    · simp only [hcont];by_cases e:N=i
      · subst e; rw [if_pos ⟨.inr rfl,hd⟩]
      · rw [if_neg (λq=>hm N J J (q.1.resolve_right e) q.2)];exact h2 hd J (λm a b=>hm m a J)
end
end Go.Ai
namespace Go.Ai
open Classical
theorem zkl {a b:List Nat} (h:disj a b=Od) {x:Nat} (hx:x∈a):x∉b:=by
 have:=List.all_eq_true.1 h x hx;simpa using this
structure Clear (f:Foot) (x:Nat):Prop where
 rd:x∉f.rd
 wr:x∉f.wr
 rall:f.rall=Oc
 wall:f.wall=Oc
theorem zqV {a b:Foot} (h:a.apart b=Od) {x:Nat} (hx:x∈a.wr\/a.wall=Od):Clear b x:=by
 unfold Foot.apart at h;simp only [Bool.and_eq_true,Bool.or_eq_true,Bool.not_eq_true',List.isEmpty_iff] at h;obtain ⟨⟨⟨⟨⟨⟨h1,h2⟩,h3⟩,h4⟩,h5⟩,h6⟩,h7⟩:=h;rcases hx with hx | hx
 . have hne:¬ a.wr=[]:=λq=>by rw [q] at hx; cases hx
   refine ⟨zkl h1 hx,zkl h2 hx, ?_, ?_⟩
   . rcases h7 with q | q
     . exact q
     . exact absurd q.1 hne
   . rcases h5 with q | q
     . exact q
     . exact absurd q.1.1.2 hne
 . rcases h4 with q | q
   . rw [hx] at q; cases q
   . obtain ⟨⟨⟨q1,q2⟩,q3⟩,q4⟩:=q;exact ⟨by rw [q1]; simp,by rw [q2]; simp,q3,q4⟩
theorem zoU {a b:Foot} (h:a.apart b=Od) {x:Nat} (hx:x∈b.wr\/b.wall=Od):Clear a x:=by
 unfold Foot.apart at h;simp only [Bool.and_eq_true,Bool.or_eq_true,Bool.not_eq_true',List.isEmpty_iff] at h;obtain ⟨⟨⟨⟨⟨⟨h1,h2⟩,h3⟩,h4⟩,h5⟩,h6⟩,h7⟩:=h;rcases hx with hx | hx
 . have hne:¬ b.wr=[]:=λq=>by rw [q] at hx; cases hx
   refine ⟨λq=>zkl h3 q hx,λq=>zkl h2 q hx, ?_, ?_⟩
   . rcases h6 with q | q
     . exact q
     . exact absurd q.1 hne
   . rcases h4 with q | q
     . exact q
     . exact absurd q.1.1.2 hne
 . rcases h5 with q | q
   . rw [hx] at q; cases q
   . obtain ⟨⟨⟨q1,q2⟩,q3⟩,q4⟩:=q;exact ⟨by rw [q1]; simp,by rw [q2]; simp,q3,q4⟩
theorem znz {ev:Operand->zb} {o:Oper} {b:Nat} (h:b∈(foot ev o).rd\/b∈(foot ev o).wr):∃ a∈o.op.operands.toList,b∈zN (ev a):=by
  unfold foot at h;have fl:∀ (c:Call),b∈(c.args.toList.map ev).flatMap zN->∃ a∈(Op.call c).operands.toList,b∈zN (ev a):=by
    intro c hb;obtain ⟨v,hv,hb⟩:=List.mem_flatMap.1 hb;obtain ⟨a,ha,rfl⟩:=List.mem_map.1 hv;exact ⟨a,by simp only [Op.operands,Call.operands,Array.toList_append,List.mem_append]; exact .inr ha,hb⟩
  cases ho:o.op<;>rw [ho] at h<;>simp only at h<;>(try (simp at h; done))
  case load t a=>exact ⟨a,by simp [Op.operands],by simpa using h⟩
  case store t a x=>exact ⟨a,by simp [Op.operands],by simpa using h⟩
  case lookup t x ix ok=>exact ⟨x,by simp [Op.operands],by simpa using h⟩
  case mapUpdate t m k x=>exact ⟨m,by simp [Op.operands],by simpa using h⟩
  case insert t m k x=>exact ⟨m,by simp [Op.operands],by simpa using h⟩
  case mapEntry t m k=>exact ⟨m,by simp [Op.operands],by simpa using h⟩
  case entryStore t m s x=>exact ⟨m,by simp [Op.operands],by simpa using h⟩
  case call c=>
    apply fl c;cases hc:c.callee with
    | value f=>rw [hc] at h; simp at h
    | invoke r m=>rw [hc] at h; simp at h
    | builtin bb=>
      rw [hc] at h;have hmap:∀ xs:List zb,b∈xs.flatMap zoF->b∈xs.flatMap zN:=by
        intro xs hx;obtain ⟨v,hv,hb⟩:=List.mem_flatMap.1 hx;refine List.mem_flatMap.2 ⟨v,hv, ?_⟩;cases v<;>simp [zoF] at hb;simp [zN,hb]
      have hsub:∀ (xs ys:List zb),(∀ y∈ys,y∈xs)->b∈ys.flatMap zN->b∈xs.flatMap zN:=by
        intro xs ys hy hx;obtain ⟨v,hv,hb⟩:=List.mem_flatMap.1 hx;exact List.mem_flatMap.2 ⟨v,hy v hv,hb⟩
      cases bb<;>simp only at h<;>(try (simp at h; done))
      case len=>
          rcases h with h | h
          · exact hmap _ h
          · cases h
      case append=>
          rcases h with h | h
          · exact hsub _ _ (λy hy=>List.mem_of_mem_drop hy) h
          · exact hsub _ _ (λy hy=>List.mem_of_mem_take hy) h
      case copy=>
          rcases h with h | h
          · exact hsub _ _ (λy hy=>List.mem_of_mem_drop hy) h
          · exact hsub _ _ (λy hy=>List.mem_of_mem_take hy) h
theorem znA {V:Emb} {v:zb} {v':Value} (h:zag V v v') {b:Nat} (hb:b∈zN v):∃ l,V b=Ob l:=by
 cases h<;>simp [zN] at hb
 . subst hb; exact ⟨_,by assumption⟩
 . subst hb; exact ⟨_,by assumption⟩
 . subst hb; exact ⟨_,by assumption⟩
def inter (V Vi:Emb):Emb:=λb=>if (Vi b).isSome then V b else Oe
theorem zhx {V Vi:Emb} {b:Nat} {l li:Loc} (h:V b=Ob l) (hi:Vi b=Ob li):inter V Vi b=Ob l:=by
 unfold inter; rw [hi]; simpa using h
theorem zes {V Vi:Emb} {b:Nat} {l:Loc} (h:inter V Vi b=Ob l):V b=Ob l/\∃ li,Vi b=Ob li:=by
 unfold inter at h;cases hi:Vi b with
 | none=>rw [hi] at h; simp at h
 | some li=>rw [hi] at h; simp at h; exact ⟨h,li,rfl⟩
theorem znb.inter {V Vi:Emb} {f f' f'':Fn} (h:znb V f f') (hi:znb Vi f f''):znb (inter V Vi) f f':=by
 rcases h with ⟨l,l',rfl,rfl,loc,hl,hc⟩ | ⟨g,rfl,rfl⟩
 . rcases hi with ⟨l2,l2',e,rfl,loc2,hl2,_⟩ | ⟨g,e,_⟩
   . cases e;exact .inl ⟨_,_,rfl,rfl,loc,zhx hl hl2,hc⟩
   . cases e
 . exact .inr ⟨_,rfl,rfl⟩
theorem zag.inter {V Vi:Emb} {v:zb} {x:Value} (h:zag V v x):∀ {y:Value},zag Vi v y->zag (inter V Vi) v x:=by
 induction h with
 | undef v=>intro y _; exact .undef v
 | bool b=>intro y _; exact .bool b
 | int k n=>intro y _; exact .int k n
 | float k b=>intro y _; exact .float k b
 | str s=>intro y _; exact .str s
 | ptr b off l h=>intro y hy; cases hy with | ptr _ _ l2 h2=>exact .ptr b off l (zhx h h2)
 | nq=>intro y _; exact .nq
 | slice b off len es cap l a ccap h hlen hcap hoff=>intro y hy; cases hy with | slice _ _ _ _ _ l2 _ _ h2 _ _ _=>exact .slice b off len es cap l a ccap (zhx h h2) hlen hcap hoff
 | nsz=>intro y _; exact .nsz
 | map r l h=>intro y hy; cases hy with | map _ l2 h2=>exact .map r l (zhx h h2)
 | nm=>intro y _; exact .nm
 | func fn fn' f c f' c' hfn hf hc _ _ ihf ihc=>
  intro y hy;cases hy with
  | func _ fn2 _ _ f2 c2 hfn2 hf2 hc2 hfs2 hcs2=>
   refine .func fn fn' f c f' c' (hfn.inter hfn2) hf hc (λi v v' hv hv'=>?_) (λi v v' hv hv'=>?_)
   ·have hlt:i<f2.size:=by rw [← hf2]; exact (List.getElem?_eq_some_iff.1 hv).1
    exact ihf i v v' hv hv' (hfs2 i v _ hv (Array.getElem?_eq_getElem hlt))
   ·have hlt:i<c2.size:=by rw [← hc2]; exact (List.getElem?_eq_some_iff.1 hv).1
    exact ihc i v v' hv hv' (hcs2 i v _ hv (Array.getElem?_eq_getElem hlt))
 | nfz=>intro y _; exact .nfz
 | iface t v v' _ ih=>intro y hy; cases hy with | iface _ _ _ h2=>exact .iface t v v' (ih h2)
 | ni=>intro y _; exact .ni
 | agg cs cs' hl _ ih=>
  intro y hy;cases hy with
  | agg _ c2 hl2 hs2=>
   refine .agg cs cs' hl (λi v v' hv hv'=>?_);have hlt:i<c2.size:=by rw [← hl2]; exact (List.getElem?_eq_some_iff.1 hv).1
   exact ih i v v' hv hv' (hs2 i v _ hv (Array.getElem?_eq_getElem hlt))
 | tuple cs cs' hl _ ih=>
  intro y hy;cases hy with
  | tuple _ c2 hl2 hs2=>
   refine .tuple cs cs' hl (λi v v' hv hv'=>?_);have hlt:i<c2.size:=by rw [← hl2]; exact (List.getElem?_eq_some_iff.1 hv).1
   exact ih i v v' hv hv' (hs2 i v _ hv (Array.getElem?_eq_getElem hlt))
theorem zoG.inter {base:Nat} {V Vi:Emb} {x:Option zf8} {l l':Loc} {w w':World} (h:zoG base V x l w) (hi:zoG base Vi x l' w'):zoG base (inter V Vi) x l w:=by
 unfold zoG at h hi ⊢;split
 . obtain ⟨cc,el,fz,h1,h2,h3,h4,h5⟩:=h;obtain ⟨_,_,_,_,_,_,g4,_⟩:=hi;exact ⟨cc,el,fz,h1,h2,h3,λi v hv=>by
    obtain ⟨v',a,b⟩:=h4 i v hv;obtain ⟨_,_,c⟩:=g4 i v hv;exact ⟨v',a,b.inter c⟩,h5⟩
 . obtain ⟨h0,ces,clk,h1,h2,h3⟩:=h;obtain ⟨_,_,_,_,_,g3⟩:=hi;exact ⟨h0,ces,clk,h1,h2,λi k v hv=>by
    obtain ⟨en,a,b,c⟩:=h3 i k v hv;obtain ⟨_,_,b2,c2⟩:=g3 i k v hv;exact ⟨en,a,b.inter b2,c.inter c2⟩⟩
 . obtain ⟨h0,L',h1,h2⟩:=h;obtain ⟨_,L2,_,g2⟩:=hi;exact ⟨h0,L',h1,⟨h2.state,h2.pending,h2.params,h2.assign,h2.body,λt=>(h2.frame t).inter (g2.frame t),h2.okP,h2.okA,h2.okB⟩⟩
 . trivial
 . exact h.elim
theorem zlD {V:Emb} {fr:zg} {tmps:Array Value} {ops:Array Oper} {o:Oper} {b:Bool} (hf:∀ d∈looks ops.toList o,zag V (fr.ev d) (tmps.getD d undef)) (hsz:∀ o∈ops.toList,∀ d,o.dst=Ob d->d<tmps.size) (hl:awanted ops.toList fr o.guard=Ob b):Region.wanted o (yielded ops tmps)=b:=by
 unfold awanted at hl;unfold Region.wanted;split at hl
 ·rename_i hg; simp at hl; subst hl; simp [hg]
 ·rename_i j want hg;simp only [hg];unfold yielded;have hl0:=hl;rw [Array.getElem?_toList] at hl;cases hd:(ops[j]?).bind (λo=>o.dst) with
  | none=>rw [hd] at hl; simp at hl; subst hl; simp
  | some d=>
   rw [hd] at hl;simp only at hl;have hlt:d<tmps.size:=by
    cases ho:ops[j]? with
    | none=>rw [ho] at hd; cases hd
    | some o'=>
     rw [ho] at hd;exact hsz o' (by rw [Array.mem_toList_iff]; exact Array.mem_of_getElem? ho) d hd
   have hv:=hf d (by
    unfold looks;refine List.mem_append.2 (.inr ?_);rw [hg];simp only [Array.getElem?_toList,hd];simp)
   have e:tmps.getD d undef=tmps[d]:=by simp [Array.getD,hlt]
   rw [e] at hv;simp only [Zs,Array.getElem?_eq_getElem hlt];generalize tmps[d]=y at hv;generalize fr.ev d=x at hv hl;cases hv<;>simp at hl<;>subst hl<;>simp
end Go.Ai
namespace Go.Ai
open Classical
structure Setup (T:Tab) (P:Program) (base:Nat) (call:Caller) (ops:Array Oper) (n:Nat) (st:Nat->zg×za) (vl:Nat->zb) (ft:Nat->Foot) (ex:Nat->Bool):Prop where
 ok:T.Ok P
 hc:zlx P base call
 hk:zfQ call
 hops:zrR n ops
 hslots:ziO ops.toList ops.toList 0=Od
 tr:zoT T call ops.toList st vl ft ex 0 []
 run:∀ i,i<=ops.size->∃ Vi ti wi,ti.size=n/\ziL Vi (st i).1 ti/\zeH base Vi (st i).2 wi
section
variable {T:Tab} {P:Program} {base:Nat} {call:Caller} {ops:Array Oper} {n:Nat} {st:Nat->zg×za} {vl:Nat->zb} {ft:Nat->Foot} {ex:Nat->Bool}
theorem zeH.wm {V:Emb} {h:za} {w:World} (hr:zeH base V h w) (x:Nat):zeH base V { h with wm:=x } w:=
 ⟨hr.toH0.congr (λ_ _ _=>rfl),hr.lt⟩
theorem zpO (ok:T.Ok P) (hc:zlx P base call) (hops:zrR n ops) (tr:zoT T call ops.toList st vl ft ex 0 []) {V:Emb} {tmps:Array Value} {w:World} (hsz:tmps.size=n) (hf:ziL V (st 0).1 tmps) (hr:zeH base V (st 0).2 w) :
    ∀ i,i<=ops.size->∃ Vi ti wi,ti.size=n/\ziL Vi (st i).1 ti/\zeH base Vi (st i).2 wi
  | 0,_=>⟨V,tmps,w,hsz,hf,hr⟩
  | i+1,hi=>by
    obtain ⟨Vi,ti,wi,h1,h2,h3⟩:=zpO ok hc hops tr hsz hf hr i J;have hlt:i<ops.size:=J
    have hoi:ops[i]?=Ob ops[i]:=Array.getElem?_eq_getElem hlt;have hol:ops.toList[i]?=Ob ops[i]:=by simp [hlt]
    have hmem:ops[i]∈ops.toList:=List.mem_of_getElem? hol;obtain ⟨hdst,hsv⟩:=hops _ hmem;have hall:∀ o∈ops.toList,∀ d,o.dst=Ob d->d<ti.size:=λo' ho' d hd'=>by rw [h1]; exact (hops o' ho').1 d hd'
    rcases tr.step i _ (Nat.zero_le _) hol with ⟨_,_,_,e⟩ | ⟨_,hw,h',hst,_,e⟩
    · rw [e];exact ⟨Vi,zg0 ti ops[i].dst undef,wi,by rw [zdR]; exact h1,h2.putDst (λd hd=>hall _ hmem d hd) (.tuple' (.nil _)),h3⟩
    · have hwant:=zno h2 hall hw;obtain ⟨r',w',V',hrel,hr',ht',_⟩:=zpM ok hc h2 (h3.wm _) hst hsv hoi hwant 0 .normal Oe [] [] [] [];cases r' with
      | pan _=>exact hrel.elim
      | ret v'=>
        rw [e];exact ⟨V',zg0 ti ops[i].dst v',w',by rw [zdR]; exact h1,(h2.mono ht'.ext).putDst (λd hd=>hall _ hmem d hd) hrel,hr'.wm _⟩
variable (s:Setup T P base call ops n st vl ft ex)
include s
theorem Setup.ev {m t:Nat} (hm:m<ops.size):(st (m+1)).1.ev t=if zgM ops.toList m=Ob t then vl m else (st m).1.ev t:=by
 have hol:ops.toList[m]?=Ob ops[m]:=by simp [hm]
 have hd:zgM ops.toList m=ops[m].dst:=by unfold zgM; rw [hol]; rfl
 have key:∀ v,zg.ev (putDst (st m).1 ops[m].dst v) t=if zgM ops.toList m=Ob t then v else (st m).1.ev t:=by
  intro v;rw [hd];cases h:ops[m].dst with
  | none=>simp [putDst]
  | some d=>
   simp only [putDst,zg.ev_set,Option.some.injEq];by_cases e:t=d
   . subst e; simp
   . rw [if_neg e,if_neg (λq=>e q.symm)]
 rcases s.tr.step m _ (Nat.zero_le _) hol with ⟨_,_,hv,e⟩ | ⟨_,hw,h',hst,_,e⟩
 . rw [e,hv]; exact key _
 . rw [e]; exact key _
theorem Setup.mono1 {m:Nat} (hm:m<ops.size):(st m).2.next<=(st (m+1)).2.next:=by
 have hol:ops.toList[m]?=Ob ops[m]:=by simp [hm]
 rcases s.tr.step m _ (Nat.zero_le _) hol with ⟨_,_,hv,e⟩ | ⟨_,hw,h',hst,_,e⟩
 . rw [e]; exact Nat.le_refl _
 . rw [e]; exact (zgK s.hk hst).1
theorem Setup.mono {m k:Nat} (hmk:m<=k) (hk:k<=ops.size):(st m).2.next<=(st k).2.next:=by
  induction k with
  | zero=>
      have:m=0:=J
      subst this; exact Nat.le_refl _
  | succ k ih=>
    by_cases e:m=k+1
    · subst e; exact Nat.le_refl _
    · exact Nat.le_trans (ih J J) (s.mono1 J)
theorem Setup.chg {m b:Nat} (hm:m<ops.size) (hb:b<(st m).2.next) (hne:(st (m+1)).2.get b≠(st m).2.get b):ex m=Od/\(b∈(ft m).wr\/(ft m).wall=Od):=by
 have hol:ops.toList[m]?=Ob ops[m]:=by simp [hm]
 rcases s.tr.step m _ (Nat.zero_le _) hol with ⟨_,_,hv,e⟩ | ⟨hex,hw,h',hst,hft,e⟩
 . rw [e] at hne; exact absurd rfl hne
 . refine ⟨hex, ?_⟩;rw [e] at hne;have hne:h'.get b≠(st m).2.get b:=hne;unfold astep at hst;split at hst
   . rename_i v h2 ha;cases hst;obtain ⟨f1,f2⟩:=zmf ha;obtain ⟨h2',g1,g2⟩:=znx ha rfl (λ_ _=>rfl);rw [ha] at g1; cases g1;have hf:ft m=foot (st m).1.op ops[m]:=by rw [hft]; unfold zf9; rw [f1]; rfl
     rw [hf];rcases g2.2.2 b with ⟨q,_⟩ | ⟨_,q | ⟨q,_⟩⟩
     . exact absurd q hne
     . exact .inl q
     . exact absurd hb (by rw [q]; exact Nat.lt_irrefl _)
   . rename_i f as ha;have hf:ft m=zf9 ⟨[],Od,[],Oc⟩ (st m).2 h':=by rw [hft,zim ha]
     right;rw [hf];unfold zf9;simp only [cond_true];cases hb2:Nat.ble (st m).2.next h'.wm with
     | false=>rfl
     | true=>
      exfalso;have hle:=Nat.le_of_ble_eq_true hb2;have:=(s.hk _ _ _ _ _ hst).2.2 b hb (Nat.lt_of_lt_of_le hb hle);exact hne this
   . split at hst<;>cases hst
theorem Setup.range_unique {m k b:Nat} (hm:m<ops.size) (hk:k<ops.size) (h1:(st m).2.next<=b) (h2:b<(st (m+1)).2.next) (h3:(st k).2.next<=b) (h4:b<(st (k+1)).2.next):m=k:=by
 rcases Nat.lt_trichotomy m k with q | q | q
 . have:=s.mono (m:=m+1) (k:=k) J J; omega
 . exact q
 . have:=s.mono (m:=k+1) (k:=m) J J; omega
end
structure Inv (base:Nat) (ops:Array Oper) (n:Nat) (st:Nat->zg×za) (vl:Nat->zb) (V0:Emb) (w0:World) (S:Nat->Prop) (V:Emb) (tmps:Array Value) (w:World) (hS:za):Prop where
 closed:Closed ops S
 lt:∀ i,S i->i<ops.size
 size:tmps.size=n
 frame:∀ t,zag V (fcont ops.toList st vl S ops.size t) (tmps.getD t undef)
 cont:∀ b l,V b=Ob l->hS.get b=hcont st S ops.size b
 heap:H0 base V hS w
 core:Core V0 (st 0).2 w0 V hS w
 dom:∀ b l,V b=Ob l->V0 b=Ob l\/∃ m,S m/\(st m).2.next<=b/\b<(st (m+1)).2.next
 junk:∀ m b,S m->b<(st m).2.next->V b=Oe->(st (m+1)).2.get b=(st m).2.get b
section
variable {T:Tab} {P:Program} {base:Nat} {call:Caller} {ops:Array Oper} {n:Nat} {st:Nat->zg×za} {vl:Nat->zb} {ft:Nat->Foot} {ex:Nat->Bool}
variable {V0:Emb} {w0:World} {S:Nat->Prop} {V:Emb} {tmps:Array Value} {w:World} {hS:za}
variable (s:Setup T P base call ops n st vl ft ex) (hl0:∀ b l,V0 b=Ob l->b<(st 0).2.next) (inv:Inv base ops n st vl V0 w0 S V tmps w hS)
variable {i:Nat} (hi:i<ops.size) (hn:¬ S i) (hp:preds ops S i)
include s inv hi hn hp in
theorem zrW {o:Oper} (ho:ops.toList[i]?=Ob o) {t:Nat} (ht:t∈looks ops.toList o):fcont ops.toList st vl S ops.size t=(st i).1.ev t:=by
 rw [zlB (i:=i) ops.size J ?_,ziZ i (λm hm=>s.ev J) ?_]
 . intro m hm hd;have hml:m<ops.size:=J
   have hom:ops.toList[m]?=Ob ops[m]:=by simp [hml]
   rcases zga ops.toList ops.toList 0 s.hslots i o ho m ops[m] J hom with q | q
   . exfalso;have hd':ops[m].dst=Ob t:=by unfold zgM at hd; rw [hom] at hd; exact hd
     unfold zfE at q;rw [hd'] at q;simp only [Bool.and_eq_true] at q;have:=q.1.1;simp at this;exact this ht
   . rw [Nat.zero_add] at q;exact zeq inv.closed hp q
 . intro m h1 h2 hm hd;have hne:m≠i:=λe=>hn (e▸hm);have hom:ops.toList[m]?=Ob ops[m]:=by simp [h2]
   rcases zga ops.toList ops.toList 0 s.hslots m ops[m] hom i o J ho with q | q
   . have hd':ops[m].dst=Ob t:=by unfold zgM at hd; rw [hom] at hd; exact hd
     unfold zfE at q;rw [hd'] at q;simp only [Bool.and_eq_true] at q;have:=q.2;simp at this;exact this ht
   . rw [Nat.zero_add] at q;exact hn (zeq inv.closed (inv.closed m hm) q)
include s inv hn in
theorem zuw {o:Oper} (ho:ops.toList[i]?=Ob o) {t:Nat} (ht:o.dst=Ob t):∀ m,i<m->m<ops.size->S m->zgM ops.toList m≠Ob t:=by
 intro m h1 h2 hm hd;have hom:ops.toList[m]?=Ob ops[m]:=by simp [h2]
 rcases zga ops.toList ops.toList 0 s.hslots m ops[m] hom i o J ho with q | q
 . have hd':ops[m].dst=Ob t:=by unfold zgM at hd; rw [hom] at hd; exact hd
   unfold zfE at q;rw [hd',ht] at q;simp only [Bool.and_eq_true] at q;have:=q.1.2;simp at this
 . rw [Nat.zero_add] at q;exact hn (zeq inv.closed (inv.closed m hm) q)
include s hl0 inv hi hn in
theorem zjR {b:Nat} (h1:(st i).2.next<=b) (h2:b<(st (i+1)).2.next):V b=Oe:=by
 cases h:V b with
 | none=>rfl
 | some l=>
  exfalso;rcases inv.dom b l h with q | ⟨m,hm,q1,q2⟩
  . have:=hl0 b l q;have:=s.mono (m:=0) (k:=i) J J;omega
  . have:=s.range_unique (inv.lt m hm) hi q1 q2 h1 h2;exact hn (this▸hm)
include s hl0 inv hi hn in
theorem znB {b:Nat} (h1:(st i).2.next<=b) (h2:b<(st (i+1)).2.next):∀ m,i<m->m<ops.size->S m->¬ Chg st m b:=by
 intro m h3 h4 hm hc;have hr:=zjR s hl0 inv hi hn h1 h2;have hle:=s.mono (m:=i+1) (k:=m) J J;have:=inv.junk m b hm J hr;rcases hc.2 with q | q
 . omega
 . exact q this
include s hl0 inv hi hn hp in
theorem zrX (hex:ex i=Od) {b:Nat} {l:Loc} (hb:V b=Ob l) (hlt:b<(st i).2.next) (hf:¬ Clear (ft i) b) :
 hcont st S ops.size b=(st i).2.get b/\∀ m,i<m->m<ops.size->S m->¬ Chg st m b:=by
 have later:∀ m,i<m->m<ops.size->S m->¬ Chg st m b:=by
  intro m h3 h4 hm hc;have hle:=s.mono (m:=i) (k:=m) J J;rcases hc.2 with q | q
  . omega
  . obtain ⟨e1,e2⟩:=s.chg h4 J q;rcases s.tr.apart i m (Nat.zero_le _) h3 (by simpa using h4) e1 hex with a | a
    . exact hf (zoU a e2)
    . exact hn (zeq inv.closed (inv.closed m hm) a)
 refine ⟨?_,later⟩;rw [zlC (i:=i) ops.size J ?_,zi0 i hlt (λm hm=>s.mono1 J) ?_]
 . intro m hm hc;by_cases hbm:b<(st m).2.next
   . have hne:(st (m+1)).2.get b≠(st m).2.get b:=hc.2.resolve_left J;obtain ⟨e1,e2⟩:=s.chg J hbm hne;rcases s.tr.apart m i (Nat.zero_le _) hm (by simpa using hi) hex e1 with a | a
     . exact absurd (zqV a e2) hf
     . exact zeq inv.closed hp a
   . rcases inv.dom b l hb with q | ⟨m',hm',q1,q2⟩
     . have:=hl0 b l q;have:=s.mono (m:=0) (k:=m) J J;omega
     . have:=s.range_unique (inv.lt m' hm') J q1 q2 (by omega:(st m).2.next<=b) hc.1;exact this▸hm'
 . intro m h1 h2 hm;by_cases e:m=i
   . exact absurd (e▸hm) hn
   . exact later m J h2 hm
end
def union (V' V:Emb):Emb:=λb=>if (V' b).isSome then V' b else V b
theorem zgp {V' V:Emb} {b:Nat} {l:Loc} (h:V' b=Ob l):union V' V b=Ob l:=by
 unfold union; rw [h]; rfl
theorem zfR {V' V:Emb} {b:Nat} (h:V' b=Oe):union V' V b=V b:=by
 unfold union; rw [h]; rfl
section
variable {base:Nat} {V Vs V':Emb} {hS g g' h2:za} {w w':World}
theorem zux (hr:H0 base V hS w) (hsub:Ext Vs V) (hg:∀ b l,Vs b=Ob l->g.get b=hS.get b) (ht:Trans Vs g w V' g' w') (hr':H0 base V' g' w')
    (hfr:∀ b,g.next<=b->b<g'.next->V b=Oe) (ha:∀ b l,V' b=Ob l->h2.get b=g'.get b) (hb:∀ b l,V b=Ob l->V' b=Oe->h2.get b=hS.get b) :
    Ext V (union V' V)/\Ext V' (union V' V)/\H0 base (union V' V) h2 w'/\Core V hS w (union V' V) h2 w':=by
  have dom':∀ b l,V' b=Ob l->Vs b=Ob l\/(g.next<=b/\b<g'.next):=ht.dom;have e1:Ext V (union V' V):=by
    intro b l h;cases h':V' b with
    | none=>rw [zfR h']; exact h
    | some l'=>
      rw [zgp h'];rcases dom' b l' h' with q | ⟨q1,q2⟩
      · have:=hsub b l' q;rw [h] at this; cases this; rfl
      · rw [hfr b q1 q2] at h; cases h
  have e2:Ext V' (union V' V):=λb l h=>zgp h;have ows:∀ b l,Vs b=Ob l->(Owns g b↔Owns hS b):=λb l h=>by unfold Owns; rw [hg b l h]
  have als:∀ b l,Vs b=Ob l->(Alive g b↔Alive hS b):=λb l h=>by unfold Alive; rw [hg b l h]
  have ow':∀ b l,V' b=Ob l->(Owns h2 b↔Owns g' b):=λb l h=>by unfold Owns; rw [ha b l h]
  have al':∀ b l,V' b=Ob l->(Alive h2 b↔Alive g' b):=λb l h=>by unfold Alive; rw [ha b l h]
  have owr:∀ b l,V b=Ob l->V' b=Oe->(Owns h2 b↔Owns hS b):=λb l h h'=>by unfold Owns; rw [hb b l h h']
  have alr:∀ b l,V b=Ob l->V' b=Oe->(Alive h2 b↔Alive hS b):=λb l h h'=>by unfold Alive; rw [hb b l h h']
  have cases':∀ b l,union V' V b=Ob l->V' b=Ob l\/(V' b=Oe/\V b=Ob l):=by
    intro b l h;cases h':V' b with
    | none=>rw [zfR h'] at h; exact .inr ⟨rfl,h⟩
    | some l'=>rw [zgp h'] at h; exact .inl h
  have nos:∀ b,V' b=Oe->Vs b=Oe:=by
    intro b h;cases h':Vs b with
    | none=>rfl
    | some l=>rw [ht.ext b l h'] at h; cases h
  refine ⟨e1,e2,⟨?_, ?_, ?_, ?_⟩,⟨e1,ht.size, ?_, ?_,ht.os,ht.tape,ht.output, ?_⟩⟩
  · intro b l h;rcases cases' b l h with q | ⟨_,q⟩
    · exact hr'.clt b l q
    · exact Nat.lt_of_lt_of_le (hr.clt b l q) ht.size
  · intro b l h;rcases cases' b l h with q | ⟨q1,q⟩
    · rw [ha b l q];exact (hr'.blk b l q).mono e2 rfl
    · rw [hb b l q q1];by_cases al:Alive hS b
      · refine (hr.blk b l q).mono e1 (ht.frame l.c (hr.clt b l q) ?_);intro b1 l1 h1 ho1;refine hr.inj b1 b l1 l (hsub b1 l1 h1) q ?_ ((ows b1 l1 h1).1 ho1) al
        rintro rfl
        rw [nos b1 q1] at h1; cases h1
      · have hblk:=hr.blk b l q;unfold Alive at al;cases hx:hS.get b with
        | none=>rw [hx] at hblk; exact hblk.elim
        | some x=>
          rw [hx] at al;cases x with
          | dead=>trivial
          | arr _ _=>exact absurd trivial al
          | mp _=>exact absurd trivial al
          | loop _=>exact absurd trivial al
  · intro b b' l l' h h' hne ho hal;rcases cases' b l h with q | ⟨q1,q⟩<;>rcases cases' b' l' h' with p | ⟨p1,p⟩
    · exact hr'.inj b b' l l' q p hne ((ow' b l q).1 ho) ((al' b' l' p).1 hal)
    · have hog:=(ow' b l q).1 ho;have hah:=(alr b' l' p p1).1 hal;rcases ht.own b l q hog.alive with ⟨g1,g2,g3⟩ | g1 | ⟨b0,l0,g1,g2,g3⟩
      · exact hr.inj b b' l l' (hsub b l g1) p hne ((ows b l g1).1 (g3 hog)) hah
      · have:=hr.clt b' l' p; omega
      · have:=hr.inj b0 b' l0 l' (hsub b0 l0 g1) p (λe=>by rw [e,nos b' p1] at g1; cases g1) ((ows b0 l0 g1).1 g2) hah;omega
    · have hog:=(owr b l q q1).1 ho;have hah:=(al' b' l' p).1 hal;rcases ht.own b' l' p hah with ⟨g1,g2,g3⟩ | g1 | ⟨b0,l0,g1,g2,g3⟩
      · exact hr.inj b b' l l' q (hsub b' l' g1) hne hog ((als b' l' g1).1 g2)
      · have:=hr.clt b l q; omega
      · have:=hr.inj b0 b l0 l (hsub b0 l0 g1) q (λe=>by rw [e,nos b q1] at g1; cases g1) ((ows b0 l0 g1).1 g2) hog.alive;omega
    · exact hr.inj b b' l l' q p hne ((owr b l q q1).1 ho) ((alr b' l' p p1).1 hal)
  · exact Nat.le_trans hr.base ht.size
  · intro k hk hb';exact ht.frame k hk (λb l h1 h2=>hb' b l (hsub b l h1) ((ows b l h1).1 h2))
  · intro b l h hal;rcases cases' b l h with q | ⟨q1,q⟩
    · rcases ht.own b l q ((al' b l q).1 hal) with ⟨g1,g2,g3⟩ | g1 | ⟨b0,l0,g1,g2,g3⟩
      · exact .inl ⟨hsub b l g1,(als b l g1).1 g2,λz=>(ows b l g1).1 (g3 ((ow' b l q).1 z))⟩
      · exact .inr (.inl g1)
      · exact .inr (.inr ⟨b0,l0,hsub b0 l0 g1,(ows b0 l0 g1).1 g2,g3⟩)
    · exact .inl ⟨q,(alr b l q q1).1 hal,λz=>(owr b l q q1).1 z⟩
  · intro b l L h hL;cases hs:Vs b with
    | some l2=>
      have hL':g.get b=Ob (.loop L):=by rw [hg b l2 hs]; exact hL
      obtain ⟨L',g1,g2⟩:=ht.loops b l2 L hs hL';exact ⟨L',by rw [ha b l2 (ht.ext b l2 hs)]; exact g1,g2⟩
    | none=>
      have hnone:V' b=Oe:=by
        cases h':V' b with
        | none=>rfl
        | some l'=>
          rcases dom' b l' h' with q | ⟨q1,q2⟩
          · rw [hs] at q; cases q
          · rw [hfr b q1 q2] at h; cases h
      exact ⟨L,by rw [hb b l h hnone]; exact hL,.refl L⟩
end
end Go.Ai