/- An abstract interpreter for the model's code: one more operation of a drawn region; the whole region. -/
import Derived.Test.YtfamdelkpempgaaGreatW2
import Derived.ChangeArms
import Derived.ChangeShapes
import Derived.WideShapes
import Derived.RowKit
import Derived.IntWalk
set_option linter.unusedSimpArgs false
set_option linter.unusedVariables false
set_option linter.unusedSectionVars false
open Option renaming some→Ob,none→Oe
open Bool renaming false→Oc,true→Od
open Option renaming bind->Zb,bind_some->Zs
namespace Go.Ai
open Classical
def opF (f:Nat->zb):Operand->zb
 | .tmp t=>f t
 | x=>zg.op .leaf x
theorem zzq (fr:zg) (x:Operand):fr.op x=opF fr.ev x:=by cases x<;>rfl
theorem zoV {V:Emb} {f:Nat->zb} {tmps:Array Value} (h:∀ t,zag V (f t) (tmps.getD t undef)) (x:Operand):zag V (opF f x) (evT tmps x):=by
 cases x with
 | tmp t=>exact h t
 | const v=>
  show zag V ((zhR v).getD .undef) v;cases h:zhR v with
  | none=>exact .undef v
  | some y=>exact zeo V v y h
 | global g=>exact .undef _
 | func f=>exact .func _ _ [] [] #[] #[] (.inr ⟨f,rfl,rfl⟩) rfl rfl Ol Ol
theorem zmg {ops:List Oper} {o:Oper} {t:Nat} (h:Operand.tmp t∈o.op.operands.toList):t∈looks ops o:=by
 unfold looks;exact List.mem_append.2 (.inl (List.mem_flatMap.2 ⟨_,h,by simp [zrH]⟩))
section
variable {T:Tab} {P:Program} {base:Nat} {call:Caller} {ops:Array Oper} {n:Nat} {st:Nat->zg×za} {vl:Nat->zb} {ft:Nat->Foot} {ex:Nat->Bool}
variable {V0:Emb} {w0:World} {S:Nat->Prop} {V:Emb} {tmps:Array Value} {w:World} {hS:za}
variable (s:Setup T P base call ops n st vl ft ex) (hl0:∀ b l,V0 b=Ob l->b<(st 0).2.next) (inv:Inv base ops n st vl V0 w0 S V tmps w hS)
variable {i:Nat} (hi:i<ops.size) (hn:¬ S i) (hp:preds ops S i)
include s inv hi hn hp in
theorem zi1 {o:Oper} (ho:ops.toList[i]?=Ob o) {x:Operand} (hx:x∈o.op.operands.toList):(st i).1.op x=opF (fcont ops.toList st vl S ops.size) x:=by
 rw [zzq];cases x with
 | tmp t=>exact (zrW s inv hi hn hp ho (zmg hx)).symm
 | const v=>rfl
 | global g=>rfl
 | func f=>rfl
include inv hi hp in
theorem zy9:Closed ops (λx=>S x\/x=i):=by
 intro j hj o ho e he hb;rcases hj with hj | hj
 . exact .inl (inv.closed j hj o ho e he hb)
 . subst hj; exact .inl (hp o ho e he hb)
include s inv hi hn in
theorem znC {o:Oper} (ho:ops.toList[i]?=Ob o) {V2:Emb} {v':Value} (he:Ext V V2) (hv:zag V2 (vl i) v') (hd:∀ d,o.dst=Ob d->d<tmps.size) (t:Nat) :
    zag V2 (fcont ops.toList st vl (λx=>S x\/x=i) ops.size t) ((zg0 tmps o.dst v').getD t undef):=by
  have hdo:zgM ops.toList i=o.dst:=by unfold zgM; rw [ho]; rfl
  by_cases e:o.dst=Ob t
  · rw [(zkk hn ops.size).2 (hdo.trans e) hi (zuw s inv hn ho e)];rw [e];have hlt:=hd t e;simp [zg0,Array.getD,hlt];exact hv
  · rw [(zkk hn ops.size).1 (by rw [hdo]; exact e)];have:=(inv.frame t).mono he;cases hdst:o.dst with
    | none=>exact this
    | some d=>
      have hne:d≠t:=λq=>e (by rw [hdst,q]);simp only [zg0];rw [show (tmps.setIfInBounds d v').getD t undef=tmps.getD t undef from by
        simp [Array.getD_eq_getD_getElem?,Array.getElem?_setIfInBounds,hne]]
      exact this
variable (fn:FuncId) (kind:CallKind) (rnd:Option Nat) (ds:List Deferred) (is:List Nat) (k:List Item) (cs:List Frame)
def Goes (P:Program) (base:Nat) (ops:Array Oper) (n:Nat) (st:Nat->zg×za) (vl:Nat->zb) (V0:Emb) (w0:World) (S:Nat->Prop) (i:Nat) (tmps:Array Value) (w:World)
 (fn:FuncId) (kind:CallKind) (rnd:Option Nat) (ds:List Deferred) (is:List Nat) (k:List Item) (cs:List Frame):Prop:=
 ∃ V2 tmps2 w2 h2,Inv base ops n st vl V0 w0 (λx=>S x\/x=i) V2 tmps2 w2 h2 /\
  Steps P (lone (fat fn kind rnd tmps ds (.inRegion ops (i::is)::k)) cs w) (lone (fat fn kind rnd tmps2 ds (.inRegion ops is::k)) cs w2)
include s inv hi hn hp in
theorem zrY {o:Oper} (ho:ops.toList[i]?=Ob o) (hd:∀ d,o.dst=Ob d->d<tmps.size) (hw:Region.wanted o (yielded ops tmps)=Oc) (hv:vl i=unit) (e:(st (i+1)).2=(st i).2) :
 Goes P base ops n st vl V0 w0 S i tmps w fn kind rnd ds is k cs:=by
 have hoi:ops[i]?=Ob o:=by simpa using ho
 have hnc:∀ b,V b≠Oe->¬ Chg st i b:=by
  intro b _ hc;unfold Chg at hc;rw [e] at hc;rcases hc.2 with q | q
  . have:=hc.1; omega
  . exact q rfl
 refine ⟨V,zg0 tmps o.dst undef,w,hS,⟨zy9 inv hi hp, ?_,by rw [zdR]; exact inv.size, ?_, ?_,inv.heap,inv.core, ?_, ?_⟩, ?_⟩
 . rintro j (hj | rfl)
   . exact inv.lt j hj
   . exact hi
 . exact znC s inv hi hn ho (.refl _) (by rw [hv]; exact .tuple' (.nil _)) hd
 . intro b l hb;rw [(zer hn ops.size).1 (hnc b (by rw [hb]; simp))];exact inv.cont b l hb
 . intro b l hb;rcases inv.dom b l hb with q | ⟨m,hm,q⟩
   . exact .inl q
   . exact .inr ⟨m,.inl hm,q⟩
 . intro m b hm hb hr;rcases hm with hm | rfl
   . exact inv.junk m b hm hb hr
   . rw [e]
 . have hst:=zlv (P:=P) (fn:=fn) (kind:=kind) (rnd:=rnd) (tmps:=tmps) (ds:=ds) (k:=k) (cs:=cs) (w:=w) (ops:=ops) (i:=i) (is:=is) (by simp [hoi,hw]);rw [hoi] at hst;simp only [Zs] at hst;exact .one hst
include s hl0 inv hi hn hp in
theorem zrZ {o:Oper} (ho:ops.toList[i]?=Ob o) (hd:∀ d,o.dst=Ob d->d<tmps.size) {Vs V':Emb} {g g':za} {w':World} {v':Value}
    (hsub:Ext Vs V) (hg:∀ b l,Vs b=Ob l->g.get b=hS.get b) (ht:Trans Vs g w V' g' w') (hr':H0 base V' g' w') (hv:zag V' (vl i) v')
    (gn:g.next=(st i).2.next) (gn':g'.next=(st (i+1)).2.next)
    (ha:∀ b l,V' b=Ob l->g'.get b=hcont st (λx=>S x\/x=i) ops.size b)
    (hb:∀ b l,V b=Ob l->V' b=Oe->¬ Chg st i b)
    (hj:∀ b,b<(st i).2.next->V b=Oe->(st (i+1)).2.get b=(st i).2.get b)
    (hst:Steps P (lone (fat fn kind rnd tmps ds (.inRegion ops (i::is)::k)) cs w) (lone (fat fn kind rnd (zg0 tmps o.dst v') ds (.inRegion ops is::k)) cs w')) :
    Goes P base ops n st vl V0 w0 S i tmps w fn kind rnd ds is k cs:=by
  have hbound:∀ b l,union V' V b=Ob l->b<(st ops.size).2.next:=by
    intro b l h;have old:∀ l,V b=Ob l->b<(st ops.size).2.next:=by
      intro l h;rcases inv.dom b l h with q | ⟨m,hm,q1,q2⟩
      · have:=hl0 b l q;have:=s.mono (m:=0) (k:=ops.size) J J;omega
      · have:=inv.lt m hm;have:=s.mono (m:=m+1) (k:=ops.size) J J;omega
    cases h':V' b with
    | none=>rw [zfR h'] at h; exact old l h
    | some l'=>
      rcases ht.dom b l' h' with q | ⟨q1,q2⟩
      · exact old l' (hsub b l' q)
      · have:=s.mono (m:=i+1) (k:=ops.size) J J;omega
  obtain ⟨h2,hn2,hget⟩:=zwl (hcont st (λx=>S x\/x=i) ops.size) 0 (st ops.size).2.next;have hcont2:∀ b l,union V' V b=Ob l->h2.get b=hcont st (λx=>S x\/x=i) ops.size b:=λb l h=>by
    rw [hget,if_pos (hbound b l h)]
  have ha2:∀ b l,V' b=Ob l->h2.get b=g'.get b:=λb l h=>by rw [hcont2 b l (zgp h),ha b l h]
  have hb2:∀ b l,V b=Ob l->V' b=Oe->h2.get b=hS.get b:=λb l h h'=>by
    rw [hcont2 b l (by rw [zfR h']; exact h),(zer hn ops.size).1 (hb b l h h'),inv.cont b l h]
  obtain ⟨e1,e2,m1,m2⟩:=zux inv.heap hsub hg ht hr' (λb h1 h2=>zjR s hl0 inv hi hn J J) ha2 hb2;refine ⟨union V' V,zg0 tmps o.dst v',w',h2,⟨zy9 inv hi hp, ?_,by rw [zdR]; exact inv.size, ?_,hcont2,m1,inv.core.trans m2, ?_, ?_⟩,hst⟩
  · rintro j (hj | rfl)
    · exact inv.lt j hj
    · exact hi
  · exact znC s inv hi hn ho e1 (hv.mono e2) hd
  · intro b l h;have old:V b=Ob l->V0 b=Ob l\/∃ m,(S m\/m=i)/\(st m).2.next<=b/\b<(st (m+1)).2.next:=by
      intro h;rcases inv.dom b l h with q | ⟨m,hm,q⟩
      · exact .inl q
      · exact .inr ⟨m,.inl hm,q⟩
    cases h':V' b with
    | none=>rw [zfR h'] at h; exact old h
    | some l'=>
      have hl:l'=l:=by rw [zgp h'] at h; cases h; rfl
      subst hl;rcases ht.dom b l' h' with q | ⟨q1,q2⟩
      · exact old (hsub b l' q)
      · exact .inr ⟨i,.inr rfl,by omega,by omega⟩
  · intro m b hm hlt hr;have hr1:V b=Oe:=by
      cases h:V b with
      | none=>rfl
      | some l=>rw [e1 b l h] at hr; cases hr
    rcases hm with hm | rfl
    · exact inv.junk m b hm hlt hr1
    · exact hj b hlt hr1
include s inv hi hn hp in
theorem zuy {o:Oper} (ho:ops.toList[i]?=Ob o) {b:Nat} (hb:b∈(foot (st i).1.op o).rd\/b∈(foot (st i).1.op o).wr):(∃ l,V b=Ob l)/\b<(st i).2.next:=by
 obtain ⟨a,ha,hb⟩:=znz hb;constructor
 . rw [zi1 s inv hi hn hp ho ha] at hb;exact znA (zoV inv.frame a) hb
 . obtain ⟨Vi,ti,wi,h1,h2,h3⟩:=s.run i J;obtain ⟨l,hl⟩:=znA (zih h2 a) hb;exact h3.lt b l hl
include hi hn in
theorem zpP {b:Nat} (hc:(st (i+1)).2.get b≠(st i).2.get b\/(st i).2.next<=b) (hlt:b<(st (i+1)).2.next) (hl:∀ m,i<m->m<ops.size->S m->¬ Chg st m b) :
 hcont st (λx=>S x\/x=i) ops.size b=(st (i+1)).2.get b:=
 (zer hn ops.size).2 ⟨hlt,hc.symm⟩ hi hl
include s hl0 inv hi hn hp in
theorem zqW {o:Oper} (ho:ops.toList[i]?=Ob o) (hd:∀ d,o.dst=Ob d->d<tmps.size) (hw:Region.wanted o (yielded ops tmps)=Od) (hs:zd4 o.op=Od)
 (hex:ex i=Od) {h':za} (ha:aop T (st i).1.op { (st i).2 with wm:=(st i).2.next } o.op=Ob (.val (vl i) h'))
 (hft:ft i=foot (st i).1.op o) (e:(st (i+1)).2={ h' with wm:=min (st i).2.wm h'.wm }) :
 Goes P base ops n st vl V0 w0 S i tmps w fn kind rnd ds is k cs:=by
 have hoi:ops[i]?=Ob o:=by simpa using ho
 have egt:∀ b,(st (i+1)).2.get b=h'.get b:=λb=>by rw [e]; rfl
 have enx:(st (i+1)).2.next=h'.next:=by rw [e]
 have hat:∀ b,b∈(foot (st i).1.op o).rd\/b∈(foot (st i).1.op o).wr->(∃ l,V b=Ob l)/\b<(st i).2.next/\hcont st S ops.size b=(st i).2.get b/\∀ m,i<m->m<ops.size->S m->¬ Chg st m b:=by
  intro b hb;obtain ⟨⟨l,hl⟩,hlt⟩:=zuy s inv hi hn hp ho hb;refine ⟨⟨l,hl⟩,hlt,zrX s hl0 inv hi hn hp hex hl hlt (λc=>?_)⟩;rw [hft] at c;rcases hb with hb | hb
  . exact c.rd hb
  . exact c.wr hb
 obtain ⟨h2',g1,g2⟩:=znx (h2:={ hS with next:=(st i).2.next,wm:=(st i).2.next }) ha rfl (λb hb=>by
  obtain ⟨⟨l,hl⟩,hlt,hc,_⟩:=hat b hb;show hS.get b=(st i).2.get b;rw [inv.cont b l hl,hc])
 rw [zrV (ev':=opF (fcont ops.toList st vl S ops.size)) (λx hx=>zi1 s inv hi hn hp ho hx)] at g1;have hH:H0 base V { hS with next:=(st i).2.next,wm:=(st i).2.next } w:=inv.heap.congr (λ_ _ _=>rfl);obtain ⟨nx,v',w',V',q1,q2,q3,q4,q5⟩:=zrO s.ok (o:=o) hH (λhne=>by
  have hne:h2'.next≠(st i).2.next:=hne;refine zjR s hl0 inv hi hn (b:=(st i).2.next) (Nat.le_refl _) ?_;have a1:h2'.next=h'.next:=g2.1;have a2:h'.next=(st i).2.next\/h'.next=(st i).2.next+1:=g2.2.1;omega) (λx=>zoV inv.frame x) g1
 have hnx:h2'.next=(st (i+1)).2.next:=by rw [enx]; exact g2.1
 refine zrZ s hl0 inv hi hn hp fn kind rnd ds is k cs ho hd (Vs:=V) (V':=V') (g:={ hS with next:=(st i).2.next,wm:=(st i).2.next }) (g':=h2') (.refl _) (λ_ _ _=>rfl) q5 q4 q3 rfl hnx ?_ ?_ ?_ ?_
 . intro b l hb;have hbd:(∃ l,V b=Ob l)\/((st i).2.next<=b/\b<(st (i+1)).2.next):=by
    rcases q5.dom b l hb with z | ⟨z1,z2⟩
    . exact .inl ⟨l,z⟩
    . exact .inr ⟨z1,by rw [← hnx]; exact z2⟩
   rcases g2.2.2 b with ⟨z1,z2,z3⟩ | ⟨z1,z2⟩
   . have hnr:¬ ((st i).2.next<=b/\b<(st (i+1)).2.next):=by
      rintro ⟨y1,y2⟩
      rw [enx] at y2;have:=g2.2.1;simp only at z3 this;omega
     have hnc:¬ Chg st i b:=by
      rintro ⟨c1,c2⟩
      rcases c2 with c2 | c2
      . exact hnr ⟨c2,c1⟩
      . exact c2 ((egt b).trans z1)
     obtain ⟨l1,hl1⟩:=hbd.resolve_right hnr;rw [z2,(zer hn ops.size).1 hnc];exact inv.cont b l1 hl1
   . rw [z1,← egt b];rcases z2 with z2 | ⟨z2,z3⟩
     . obtain ⟨⟨l1,hl1⟩,hlt,hc,hlat⟩:=hat b (.inr z2);by_cases hch:Chg st i b
       . exact ((zer hn ops.size).2 hch hi hlat).symm
       . rw [(zer hn ops.size).1 hch,hc];have hlt2:b<(st (i+1)).2.next:=Nat.lt_of_lt_of_le hlt (s.mono1 hi);by_cases q:(st (i+1)).2.get b=(st i).2.get b
         . exact q
         . exact absurd ⟨hlt2,.inr q⟩ hch
     . simp only at z2 z3;have h1:(st i).2.next<=b:=J
       have h2:b<(st (i+1)).2.next:=J
       exact (zpP hi hn (.inr h1) h2 (znB s hl0 inv hi hn h1 h2)).symm
 . intro b l hb hb';rw [q5.ext b l hb] at hb'; cases hb'
 . intro b hlt hr;rw [egt];rcases g2.2.2 b with ⟨z1,z2,z3⟩ | ⟨z1,z2⟩
   . exact z1
   . rcases z2 with z2 | ⟨z2,z3⟩
     . obtain ⟨⟨l1,hl1⟩,_⟩:=hat b (.inr z2);rw [hr] at hl1; cases hl1
     . simp only at z2; omega
 . exact .one (zgI hoi hw hs q1 q2)
include s hl0 inv hi hn hp in
theorem zr0 {o:Oper} (ho:ops.toList[i]?=Ob o) (hd:∀ d,o.dst=Ob d->d<tmps.size) (hw:Region.wanted o (yielded ops tmps)=Od) (hs:zd4 o.op=Od)
    (hex:ex i=Od) {f:zb} {as:List zb} {h':za} (ha:aop T (st i).1.op { (st i).2 with wm:=(st i).2.next } o.op=Ob (.call f as)) (hcl:call f as { (st i).2 with wm:=(st i).2.next }=Ob (.ret (vl i),h'))
    (hft:(ft i).rall=Od) (e:(st (i+1)).2={ h' with wm:=min (st i).2.wm h'.wm }) :
    Goes P base ops n st vl V0 w0 S i tmps w fn kind rnd ds is k cs:=by
  have hoi:ops[i]?=Ob o:=by simpa using ho
  have egt:∀ b,(st (i+1)).2.get b=h'.get b:=λb=>by rw [e]; rfl
  have enx:(st (i+1)).2.next=h'.next:=by rw [e]
  obtain ⟨Vi,ti,wi,r1,r2,r3⟩:=s.run i J;have hat:∀ b l,inter V Vi b=Ob l->hcont st S ops.size b=(st i).2.get b/\∀ m,i<m->m<ops.size->S m->¬ Chg st m b:=by
    intro b l hb;obtain ⟨h1,li,h2⟩:=zes hb;refine zrX s hl0 inv hi hn hp hex h1 (r3.lt b li h2) (λc=>?_);have:=c.rall;rw [hft] at this; cases this
  have hget:∀ b l,inter V Vi b=Ob l->(st i).2.get b=hS.get b:=λb l hb=>by
    rw [inv.cont b l (zes hb).1,(hat b l hb).1]
  have hH:zeH base (inter V Vi) { (st i).2 with wm:=(st i).2.next } w:=by
    refine ⟨⟨?_, ?_, ?_,inv.heap.base⟩, ?_⟩
    · intro b l hb; exact inv.heap.clt b l (zes hb).1
    · intro b l hb;obtain ⟨h1,li,h2⟩:=zes hb;have g1:=inv.heap.blk b l h1;rw [← hget b l hb] at g1;exact g1.inter (r3.blk b li h2)
    · intro b b' l l' hb hb' hne ho ha;refine inv.heap.inj b b' l l' (zes hb).1 (zes hb').1 hne ?_ ?_
      · unfold Owns at ho ⊢; rw [← hget b l hb]; exact ho
      · unfold Alive at ha ⊢; rw [← hget b' l' hb']; exact ha
    · intro b l hb;obtain ⟨h1,li,h2⟩:=zes hb;exact r3.lt b li h2
  have hop:∀ x∈o.op.operands.toList,zag (inter V Vi) ((st i).1.op x) (evT tmps x):=by
    intro x hx;have h1:=zoV inv.frame x;rw [← zi1 s inv hi hn hp ho hx] at h1;exact h1.inter (zih r2 x)
  obtain ⟨c,fo,hopc,hcal,rfl,rfl⟩:=zc5 ha;have hfo:fo∈o.op.operands.toList:=by rw [hopc]; simp [Op.operands,Call.operands,hcal]
  have hargs:zcB (inter V Vi) (c.args.toList.map (st i).1.op) (c.args.map (evT tmps)).toList:=by
    refine ⟨by simp,λj v v' hv hv'=>?_⟩;rw [Array.toList_map] at hv';rw [List.getElem?_map] at hv hv';cases hx:c.args.toList[j]? with
    | none=>rw [hx] at hv; cases hv
    | some x=>
      rw [hx] at hv hv';cases hv; cases hv';refine hop x ?_;rw [hopc];simp only [Op.operands,Call.operands,Array.toList_append,List.mem_append];exact .inr (List.mem_of_getElem? hx)
  obtain ⟨nx,fs,h1,h2,h3⟩:=s.hc _ _ _ _ _ hcl (inter V Vi) w (evT tmps fo) (c.args.map (evT tmps)) (hop fo hfo) hargs hH;have hrun:(execOp (evT tmps) o).run P w=.ok nx w:=by
    unfold execOp;rw [hopc];simp only [resolve,hcal];exact h1
  have hst:=zlw (fn:=fn) (kind:=kind) (rnd:=rnd) (ds:=ds) (k:=k) (cs:=cs) (is:=is) hoi hw hs hrun h2;obtain ⟨r',w',V',q1,q2,q3,q4⟩:=h3 (fat fn kind rnd tmps ds (.inRegion ops (i::is)::k)) cs;cases r' with
  | pan _=>exact q1.elim
  | ret v'=>
    have hfin:(zua.ret v').frame (fat fn kind rnd tmps ds (.inRegion ops (i::is)::k))=fat fn kind rnd (zg0 tmps o.dst v') ds (.inRegion ops is::k):=by
      simp only [zua.frame];rw [zgn,hoi]; rfl
    have hsteps:=Steps.head hst q4;rw [hfin] at hsteps;have nr:∀ b,V' b=Oe->inter V Vi b=Oe:=by
      intro b hb;cases z:inter V Vi b with
      | none=>rfl
      | some l=>rw [q3.ext b l z] at hb; cases hb
    have hj:∀ b,b<(st i).2.next->inter V Vi b=Oe->(st (i+1)).2.get b=(st i).2.get b:=λb hlt hr=>by
      rw [egt]; exact q3.junk b hlt hr
    refine zrZ s hl0 inv hi hn hp fn kind rnd ds is k cs ho hd (Vs:=inter V Vi) (V':=V') (g:={ (st i).2 with wm:=(st i).2.next }) (g':=h') (λb l hb=>(zes hb).1) hget q3 q2.toH0 q1 rfl enx.symm ?_ ?_ ?_ hsteps
    · intro b l hb;rw [← egt];rcases q3.dom b l hb with z | ⟨z1,z2⟩
      · obtain ⟨hc,hlat⟩:=hat b l z;have hlt:=hH.lt b l z;have hlt:b<(st i).2.next:=hlt;by_cases hch:Chg st i b
        · exact ((zer hn ops.size).2 hch hi hlat).symm
        · rw [(zer hn ops.size).1 hch,hc];have hlt2:b<(st (i+1)).2.next:=Nat.lt_of_lt_of_le hlt (s.mono1 hi);by_cases q:(st (i+1)).2.get b=(st i).2.get b
          · exact q
          · exact absurd ⟨hlt2,.inr q⟩ hch
      · have h1:(st i).2.next<=b:=z1;have h2:b<(st (i+1)).2.next:=by rw [enx]; exact z2
        exact (zpP hi hn (.inr h1) h2 (znB s hl0 inv hi hn h1 h2)).symm
    · rintro b l hb hb' ⟨c1,c2⟩
      by_cases hlt:b<(st i).2.next
      · exact (c2.resolve_left J) (hj b hlt (nr b hb'))
      · rw [zjR s hl0 inv hi hn J c1] at hb; cases hb
    · intro b hlt hr;refine hj b hlt ?_;cases z:inter V Vi b with
      | none=>rfl
      | some l=>rw [(zes z).1] at hr; cases hr
include s hl0 inv hi hn hp in
theorem goes:Goes P base ops n st vl V0 w0 S i tmps w fn kind rnd ds is k cs:=by
 have hol:ops.toList[i]?=Ob ops[i]:=by simp [hi]
 have hmem:ops[i]∈ops.toList:=List.mem_of_getElem? hol;obtain ⟨hdst,hsv⟩:=s.hops _ hmem;have hall:∀ o∈ops.toList,∀ d,o.dst=Ob d->d<tmps.size:=λo' ho' d hd'=>by rw [inv.size]; exact (s.hops o' ho').1 d hd'
 have hlk:∀ d∈looks ops.toList ops[i],zag V ((st i).1.ev d) (tmps.getD d undef):=λd hd=>by
  rw [← zrW s inv hi hn hp hol hd]; exact inv.frame d
 rcases s.tr.step i _ (Nat.zero_le _) hol with ⟨_,hw,hv,e⟩ | ⟨hex,hw,h',hst,hft,e⟩
 . exact zrY s inv hi hn hp fn kind rnd ds is k cs hol (hall _ hmem) (zlD hlk hall hw) hv (by rw [e])
 . have hwt:=zlD hlk hall hw;unfold astep at hst;split at hst
   . rename_i v h2 ha;cases hst;obtain ⟨f1,f2⟩:=zmf ha;exact zqW s hl0 inv hi hn hp fn kind rnd ds is k cs hol (hall _ hmem) hwt hsv hex ha (by rw [hft]; unfold zf9; rw [f1]; rfl) (by rw [e])
   . rename_i f as ha;exact zr0 s hl0 inv hi hn hp fn kind rnd ds is k cs hol (hall _ hmem) hwt hsv hex ha hst (by rw [hft,zim ha]; rfl) (by rw [e])
   . split at hst<;>cases hst
include s hl0 in
theorem zuz {l:List Nat} (hs:Sched ops S l):∀ {V:Emb} {tmps:Array Value} {w:World} {hS:za},Inv base ops n st vl V0 w0 S V tmps w hS ->
    ∃ V2 tmps2 w2 h2,Inv base ops n st vl V0 w0 (λi=>i<ops.size) V2 tmps2 w2 h2 /\
      Steps P (lone (fat fn kind rnd tmps ds (.inRegion ops l::k)) cs w) (lone (fat fn kind rnd tmps2 ds (.inRegion ops []::k)) cs w2):=by
  induction hs with
  | nil S h=>
    intro V tmps w hS inv;have:S=(λi=>i<ops.size):=funext λx=>propext ⟨inv.lt x,h x⟩;subst this;exact ⟨V,tmps,w,hS,inv,.refl _ _⟩
  | cons S i l hi hn hp _ ih=>
    intro V tmps w hS inv;obtain ⟨V1,t1,w1,h1,i1,s1⟩:=goes s hl0 inv hi hn hp fn kind rnd ds l k cs;obtain ⟨V2,t2,w2,h2,i2,s2⟩:=ih i1;exact ⟨V2,t2,w2,h2,i2,s1.trans s2⟩
end
theorem zwZ {T:Tab} {P:Program} {base:Nat} (ok:T.Ok P):zwk T P base:=by
 intro call hc hk ops n hops hedge hslots fr h fr' h' hl V w ds rnd tmps t pre fn kind k cs;obtain ⟨st,vl,ft,ex,s0,tr,sN⟩:=zhY ops.toList 0 [] fr h fr' h' Ol hl;simp only [Nat.zero_add,Array.length_toList] at sN;have e1:(st 0).1=fr:=by rw [s0]
 have e2:(st 0).2=h:=by rw [s0]
 have s:Setup T P base call ops n st vl ft ex:=⟨ok,hc,hk,hops,hslots,tr,zpO ok hc hops tr pre.size (by rw [e1]; exact pre.frame) (by rw [e2]; exact pre.heap)⟩;have hf0:∀ N t,fcont ops.toList st vl (λ_=>False) N t=fr.ev t:=by
  intro N t;induction N with
  | zero=>simp only [fcont]; rw [e1]
  | succ N ih=>simp only [fcont]; rw [if_neg (λq=>q.1)]; exact ih
 have hh0:∀ N b,hcont st (λ_=>False) N b=h.get b:=by
  intro N b;induction N with
  | zero=>simp only [hcont]; rw [e2]
  | succ N ih=>simp only [hcont]; rw [if_neg (λq=>q.1)]; exact ih
 have hl0:∀ b l,V b=Ob l->b<(st 0).2.next:=by rw [e2]; exact pre.heap.lt
 have inv0:Inv base ops n st vl V w (λ_=>False) V tmps w h:=by
  refine ⟨λi hi=>hi.elim,λi hi=>hi.elim,pre.size,λt=>?_,λb l _=>?_,pre.heap.toH0, ?_,λb l hb=>.inl hb,λm b hm=>hm.elim⟩
  . rw [hf0]; exact pre.frame t
  . rw [hh0]
  . rw [e2]; exact .refl _ _ _
 obtain ⟨V2,t2,w2,h2,inv,hsteps⟩:=zuz s hl0 fn kind rnd ds k cs (zk8 hedge t) inv0;have ehc:∀ b l,V2 b=Ob l->h2.get b=(st ops.size).2.get b:=by
  intro b l hb;rw [inv.cont b l hb];refine zi0 ops.size ?_ (λm hm=>s.mono1 hm) (λm hm _=>hm);rcases inv.dom b l hb with q | ⟨m,hm,q1,q2⟩
  . exact Nat.lt_of_lt_of_le (hl0 b l q) (s.mono (Nat.zero_le _) (Nat.le_refl _))
  . exact Nat.lt_of_lt_of_le q2 (s.mono J (Nat.le_refl _))
 have efr:∀ t,fcont ops.toList st vl (λi=>i<ops.size) ops.size t=(st ops.size).1.ev t:=λt=>ziZ ops.size (λm hm=>s.ev hm) (λm hm _=>hm);have eN1:(st ops.size).1=fr':=by rw [sN]
 have eN2:(st ops.size).2=h':=by rw [sN]
 have hH:H0 base V2 h' w2:=by rw [← eN2]; exact inv.heap.congr (λb l hb=>(ehc b l hb).symm)
 have hC:Core V h w V2 h' w2:=by
  have:=inv.core.congr (g:=h) (g':=h') (λb l _=>by rw [e2]) (λb l hb=>by rw [← eN2]; exact (ehc b l hb).symm);exact this
 have hT:Trans V h w V2 h' w2:=by
  refine ⟨hC.ext,hC.size,hC.frame,hC.own,hC.os,hC.tape,hC.output,hC.loops, ?_, ?_, ?_⟩
  . rw [← e2,← eN2]; exact s.mono (Nat.zero_le _) (Nat.le_refl _)
  . intro b l hb;rcases inv.dom b l hb with q | ⟨m,hm,q1,q2⟩
    . exact .inl q
    . right;rw [← e2,← eN2];have:=s.mono (m:=0) (k:=m) (Nat.zero_le _) J;have:=s.mono (m:=m+1) (k:=ops.size) J (Nat.le_refl _);omega
  . intro b hb hr;have hnone:V2 b=Oe:=by
     cases z:V2 b with
     | none=>rfl
     | some l=>
      rcases inv.dom b l z with q | ⟨m,hm,q1,q2⟩
      . rw [hr] at q; cases q
      . have:=s.mono (m:=0) (k:=m) (Nat.zero_le _) J;rw [e2] at this;omega
    have all:∀ m,m<=ops.size->(st m).2.get b=h.get b:=by
     intro m;induction m with
     | zero=>intro _; rw [e2]
     | succ m ih=>
      intro hm;have hle:=s.mono (m:=0) (k:=m) (Nat.zero_le _) J;rw [e2] at hle;rw [inv.junk m b J J hnone];exact ih J
    rw [← eN2];exact all ops.size (Nat.le_refl _)
 refine ⟨t2,w2,V2,inv.size,λt=>?_,hH.toH hT pre.heap,hT,hsteps.trans (.one zfu)⟩;rw [← eN1,← efr];exact inv.frame t
end Go.Ai
namespace Go.Ai
theorem zoW {T:Tab} {P:Program} {base:Nat} (ok:T.Ok P) (n:Nat):RunOk P base (aexec T n):=
 zpN ok (zwZ ok) zki zkh n
theorem zmh {T:Tab} {P:Program} {base:Nat} (ok:T.Ok P) {n:Nat} {f:FuncId} {args:List zb} {h:za} {r:zhT} {h':za} (hl:zeL T (aexec T n) f args h=Ob (r,h')) {V:Emb} {w:World} {args':Array Value}
 (ha:zcB V args args'.toList) (hr:zeH base V h w):Calls P f args' w (zqT base V h w r h'):=
 (zwY ok (zoW ok n) hl ha hr).2
theorem Tab.Ok.prim {T : Tab} {P : Program} (ok : T.Ok P) {g : FuncId} {p : List zb → Option zb} (h1 : ∃ F, P.funcs[g]? = some F ∧ (F.name == "runtime.NumGoroutine") = false ∧ F.body.isSome = true)
    (h2:∀ xs v,p xs=Ob v->∀ V (xs':Array Value) w,zcB V xs xs'.toList->Calls P g xs' w fun e w'=>∃ v',e=.returned v'∧zag V v v'∧w'=w) :
    Tab.Ok { T with consts:=T.consts.set g p } P:=by
  refine ⟨ok.types,ok.funcs,ok.mixed,fun f q hq=>?_,ok.defs⟩;have hq:(T.consts.set g p).get f=Ob q:=hq;rw [Tr.get_set] at hq;by_cases e:f=g
  · rw [if_pos e] at hq;cases hq;subst e;refine ⟨h1,fun xs v hv V xs' w hx=>(h2 xs v hv V xs' w hx).mono fun e w' he=>?_⟩;obtain ⟨v',a1,a2,rfl⟩:=he;exact ⟨v',a1,a2,Nat.le_refl _,fun _ _=>rfl,rfl,rfl,rfl⟩
  · rw [if_neg e] at hq;exact ok.consts f q hq
def Runner.Le (a b:Runner):Prop:=∀ c fr h r,a c fr h=Ob r->b c fr h=Ob r
def Caller.Le (a b:Caller):Prop:=∀ f as h r,a f as h=Ob r->b f as h=Ob r
section
variable {T:Tab}
theorem zmi {a b:Caller} (h:Caller.Le a b) {ev:Operand->zb} {o:Op} {hp:za} {r:zhT×za} (hl:astep T a ev o hp=Ob r):astep T b ev o hp=Ob r:=by
 unfold astep at hl ⊢;split at hl
 . rename_i e; exact hl
 . rename_i e; exact h _ _ _ _ hl
 . exact hl
theorem zmj {a b:Caller} (h:Caller.Le a b) {ops:List Oper}:∀ (rest:List Oper) (fr:zg) (hp:za) (r:zaC×zg×za),aops T a ops rest fr hp=Ob r->aops T b ops rest fr hp=Ob r
 | [],_,_,_,hl=>hl
 | o::rest,fr,hp,r,hl=>by
  simp only [aops] at hl ⊢;split at hl
  . split at hl
    . rename_i e;rw [zmi h e];exact zmj h rest _ _ _ hl
    . rename_i e;rw [zmi h e];exact hl
    . cases hl
  . exact zmj h rest _ _ _ hl
  . cases hl
theorem zin {a b:Caller} (h:Caller.Le a b) {ops:List Oper}:∀ (rest:List Oper) (i:Nat) (done:List (Nat×Foot)) (fr:zg) (hp:za) (r:zg×za),adraw T a ops rest i done fr hp=Ob r->adraw T b ops rest i done fr hp=Ob r
 | [],_,_,_,_,_,hl=>hl
 | o::rest,i,done,fr,hp,r,hl=>by
  simp only [adraw] at hl ⊢;split at hl
  . split at hl
    . rename_i e;rw [zmi h e];cases hf:zcL ops i _ done with
      | false=>rw [hf] at hl; cases hl
      | true=>
       rw [hf] at hl;simp only [cond_true] at hl ⊢;simp only [hf,cond_true];exact zin h rest _ _ _ _ _ hl
    . cases hl
  . exact zin h rest _ _ _ _ _ hl
  . cases hl
theorem zmk {a b:Runner} (h:Runner.Le a b):∀ (cs:List Code) (fr:zg) (hp:za) (r:zaC×zg×za),aseqs a cs fr hp=Ob r->aseqs b cs fr hp=Ob r
 | [],_,_,_,hl=>hl
 | c::cs,fr,hp,r,hl=>by
  simp only [aseqs] at hl ⊢;cases e:a c fr hp with
  | none=>rw [e] at hl; cases hl
  | some q=>
   obtain ⟨ex,fr',h'⟩:=q;rw [h _ _ _ _ e];rw [e] at hl;cases ex<;>first | exact hl | exact zmk h cs _ _ _ hl
theorem znD {a b:Runner} (h:Runner.Le a b) {D:zen} {x v:zb} {hp h':za} (hl:aclose a D x v hp=Ob h'):aclose b D x v hp=Ob h':=by
 unfold aclose at hl ⊢;split at hl
 . rename_i g first captured
   cases hb:Nat.beq g D.fn&&Nat.ble (first++captured).length D.cn with
   | false=>rw [hb] at hl; cases hl
   | true=>
    rw [hb] at hl;simp only [hb,cond_true] at hl ⊢;split at hl
    . rename_i e; cases hl; simp only [h _ _ _ _ e]
    . cases hl
 . cases hl
theorem zr1 {a b:Runner} (h:Runner.Le a b) {D:zen} {as:List zb} {hp:za} {r:zhT×za} (hl:zjp T a D as hp=Ob r):zjp T b D as hp=Ob r:=by
 obtain ⟨r0,h0⟩:=r;unfold zjp at hl ⊢;cases hb:Nat.blt D.ntmps as.length with
 | true=>rw [hb] at hl; cases hl
 | false=>
  rw [hb] at hl;simp only [cond_false] at hl ⊢;split at hl
  . rename_i e; simp only [zmk h _ _ _ _ e]; exact hl
  . rename_i e;simp only [zmk h _ _ _ _ e];split at hl
    . rename_i e1;try simp only [e1]
      split at hl
      . rename_i e2;simp only [h _ _ _ _ e2];obtain ⟨h3,_⟩:=zgo hl;rw [h3] at hl;rw [znD h h3]; exact hl
      . rename_i e2;simp only [h _ _ _ _ e2];obtain ⟨h3,_⟩:=zgo hl;rw [h3] at hl;rw [znD h h3]; exact hl
      . cases hl
    . cases hl
  . cases hl
theorem zqX {a b:Runner} (h:Runner.Le a b) {f:FuncId} {as:List zb} {hp:za} {r:zhT×za} (hl:zeL T a f as hp=Ob r):zeL T b f as hp=Ob r:=by
 unfold zeL at hl ⊢;split at hl
 . rename_i F hF;cases hb:Nat.blt F.ntmps as.length with
   | true=>rw [hb] at hl; cases hl
   | false=>
    rw [hb] at hl;simp only [cond_false] at hl ⊢;split at hl
    . rename_i c hc;split at hl<;>first | (rename_i e; simp only [h _ _ _ _ e]; exact hl) | cases hl
    . cases hl
 . split at hl
   . exact zr1 h hl
   . cases hl
theorem zr2 {a b:Runner} (h:Runner.Le a b) {l:Nat} {as:List zb} {hp:za} {r:zhT×za} (hl:around a l as hp=Ob r):around b l as hp=Ob r:=by
 unfold around at hl ⊢;split at hl
 . rename_i L hL;split at hl
   . rename_i hc;rw [if_pos hc];split at hl
     . rename_i e;simp only [h _ _ _ _ e];split at hl
       . rename_i L1 hL1;split at hl
         . rename_i hr;rw [if_pos hr];split at hl<;>first | (rename_i e; simp only [h _ _ _ _ e]; exact hl) | cases hl
         . cases hl
       . cases hl
     . cases hl
   . cases hl
 . cases hl
theorem zgN {a b:Runner} (h:Runner.Le a b):Caller.Le (acall T a) (acall T b):=by
 intro f as hp r hl;unfold acall at hl ⊢;split at hl
 . split at hl
   . exact hl
   . exact zqX h hl
 . exact zr2 h hl
 . cases hl
theorem znE:∀ n,Runner.Le (aexec T n) (aexec T (n+1))
 | 0=>by intro c fr h r hl; simp [aexec] at hl
 | n+1=>by
  have ih:=znE n;have ihc:=zgN (T:=T) ih;intro c fr h r hl;cases c with
  | skip=>exact hl
  | label l=>exact hl
  | region id ops draw=>
   rw [aexec] at hl ⊢;cases draw with
   | true=>
    simp only [if_true] at hl ⊢;split at hl
    ·rename_i e;simp only [zin ihc _ _ _ _ _ _ e];exact hl
    ·cases hl
   | false=>
    simp only [Bool.false_eq_true,if_false] at hl ⊢;exact zmj ihc _ _ _ _ hl
  | seq x y=>
   rw [aexec] at hl ⊢;cases e:aexec T n x fr h with
   | none=>rw [e] at hl; cases hl
   | some q=>
    obtain ⟨ex,fr',h'⟩:=q;rw [ih _ _ _ _ e];rw [e] at hl;cases ex<;>first | exact hl | exact ih _ _ _ _ hl
  | cond c x y=>
   rw [aexec] at hl ⊢;split at hl
   ·rename_i t e;exact ih _ _ _ _ hl
   ·cases hl
  | block id c=>
   rw [aexec] at hl ⊢;cases e:aexec T n c fr h with
   | none=>rw [e] at hl; cases hl
   | some q=>
    rw [ih _ _ _ _ e];rw [e] at hl;exact hl
  | loop c=>
   rw [aexec] at hl ⊢;cases e:aexec T n c fr h with
   | none=>rw [e] at hl; cases hl
   | some q=>
    obtain ⟨ex,fr',h'⟩:=q;rw [ih _ _ _ _ e];rw [e] at hl;cases ex<;>first | exact hl | exact ih _ _ _ _ hl
  | rangeFunc f params assign body=>
   rw [aexec] at hl ⊢;split at hl<;>first | (rename_i e; simp only [ihc _ _ _ _ e]; exact hl) | cases hl
  | exit id=>exact hl
  | scope c=>
   rw [aexec] at hl ⊢;cases e:aexec T n c fr h with
   | none=>rw [e] at hl; cases hl
   | some q=>
    rw [ih _ _ _ _ e];rw [e] at hl;exact hl
  | goto l=>exact hl
  | ret=>exact hl
  | refuse _=>simp [aexec] at hl
theorem zd5 {n m:Nat} (h:n<=m):Runner.Le (aexec T n) (aexec T m):=by
  induction m with
  | zero=>
      have:n=0:=J
      subst this; exact λ_ _ _ _ q=>q
  | succ m ih=>
    by_cases e:n=m+1
    · subst e; exact λ_ _ _ _ q=>q
    · exact λc fr hp r q=>znE m c fr hp r (ih J c fr hp r q)
end
section
variable (T:Tab)
def Run (c:Code) (fr:zg) (h:za) (Q:zaC->zg->za->Prop):Prop:=∃ n e fr' h',aexec T n c fr h=Ob (e,fr',h')/\Q e fr' h'
def Ops (ops rest:List Oper) (fr:zg) (h:za) (Q:zaC->zg->za->Prop):Prop:=∃ n e fr' h',aops T (acall T (aexec T n)) ops rest fr h=Ob (e,fr',h')/\Q e fr' h'
def Draw (ops rest:List Oper) (i:Nat) (done:List (Nat×Foot)) (fr:zg) (h:za) (Q:zg->za->Prop):Prop:=∃ n fr' h',adraw T (acall T (aexec T n)) ops rest i done fr h=Ob (fr',h')/\Q fr' h'
def zjH (f:zb) (vs:List zb) (h:za) (Q:zhT->za->Prop):Prop:=∃ n r h',acall T (aexec T n) f vs h=Ob (r,h')/\Q r h'
def zk9 (g:FuncId) (vs:List zb) (h:za) (Q:zhT->za->Prop):Prop:=∃ n r h',zeL T (aexec T n) g vs h=Ob (r,h')/\Q r h'
variable {T}
variable {fr:zg} {h:za} {Q:zaC->zg->za->Prop}
theorem Run.mono {c:Code} {Q Q':zaC->zg->za->Prop} (r:Run T c fr h Q) (hq:∀ e fr' h',Q e fr' h'->Q' e fr' h'):Run T c fr h Q':=
 let ⟨n,e,fr',h',a,b⟩:=r; ⟨n,e,fr',h',a,hq _ _ _ b⟩
theorem zpQ (q:Q .normal fr h):Run T .skip fr h Q:=⟨1,_,_,_,rfl,q⟩
theorem zr3 {l:Nat} (q:Q .normal fr h):Run T (.label l) fr h Q:=⟨1,_,_,_,rfl,q⟩
theorem zpR {id:Nat} (q:Q (.exit id) fr h):Run T (.exit id) fr h Q:=⟨1,_,_,_,rfl,q⟩
theorem zw0 (q:Q .ret fr h):Run T .ret fr h Q:=⟨1,_,_,_,rfl,q⟩
def zCa (T:Tab) (b:Code) (Q:zaC->zg->za->Prop) (e:zaC) (fr:zg) (h:za):Prop:=
 match e with
 | .normal=>Run T b fr h Q
 | e=>Q e fr h
theorem zw1 {a b:Code} (r:Run T a fr h (zCa T b Q)):Run T (.seq a b) fr h Q:=by
 obtain ⟨n,e,fr',h',h1,h2⟩:=r;cases e with
 | normal=>
  obtain ⟨m,e2,fr2,hh2,h3,h4⟩:=h2;refine ⟨max n m+1,e2,fr2,hh2, ?_,h4⟩;rw [aexec,zd5 (Nat.le_max_left n m) _ _ _ _ h1];exact zd5 (Nat.le_max_right n m) _ _ _ _ h3
 | exit id=>exact ⟨n+1,_,_,_,by rw [aexec,h1],h2⟩
 | goto l=>exact ⟨n+1,_,_,_,by rw [aexec,h1],h2⟩
 | ret=>exact ⟨n+1,_,_,_,by rw [aexec,h1],h2⟩
 | pan v=>exact ⟨n+1,_,_,_,by rw [aexec,h1],h2⟩
theorem zuA {c:Operand} {a b:Code} {t:Bool} (hc:fr.op c=.bool t) (r:Run T (if t then a else b) fr h Q):Run T (.cond c a b) fr h Q:=by
 obtain ⟨n,e,fr',h',h1,h2⟩:=r;exact ⟨n+1,e,fr',h',by rw [aexec,hc]; exact h1,h2⟩
def zpS (id:Nat) (Q:zaC->zg->za->Prop) (e:zaC) (fr:zg) (h:za):Prop:=
 match e with
 | .exit id'=>if id'=id then Q .normal fr h else Q (.exit id') fr h
 | e=>Q e fr h
theorem zr4 {id:Nat} {c:Code} (r:Run T c fr h (zpS id Q)):Run T (.block id c) fr h Q:=by
 obtain ⟨n,e,fr',h',h1,h2⟩:=r;cases e with
 | exit id'=>
  by_cases q:id'=id
  . subst q;refine ⟨n+1,.normal,fr',h',by rw [aexec,h1]; simp,by simpa [zpS] using h2⟩
  . refine ⟨n+1,.exit id',fr',h',by rw [aexec,h1]; simp [q],by simpa [zpS,q] using h2⟩
 | normal=>exact ⟨n+1,_,_,_,by rw [aexec,h1],h2⟩
 | goto l=>exact ⟨n+1,_,_,_,by rw [aexec,h1],h2⟩
 | ret=>exact ⟨n+1,_,_,_,by rw [aexec,h1],h2⟩
 | pan v=>exact ⟨n+1,_,_,_,by rw [aexec,h1],h2⟩
theorem zr5 {c:Code} (r:Run T c fr h Q) (hq:∀ l fr' h',¬ Q (.goto l) fr' h'):Run T (.scope c) fr h Q:=by
 obtain ⟨n,e,fr',h',h1,h2⟩:=r;cases e with
 | goto l=>exact absurd h2 (hq _ _ _)
 | normal=>exact ⟨n+1,_,_,_,by rw [aexec,h1],h2⟩
 | exit l=>exact ⟨n+1,_,_,_,by rw [aexec,h1],h2⟩
 | ret=>exact ⟨n+1,_,_,_,by rw [aexec,h1],h2⟩
 | pan v=>exact ⟨n+1,_,_,_,by rw [aexec,h1],h2⟩
theorem zqY {id:Nat} {ops:Array Oper} (r:Ops T ops.toList ops.toList fr h Q):Run T (.region id ops Oc) fr h Q:=by
 obtain ⟨n,e,fr',h',h1,h2⟩:=r;exact ⟨n+1,e,fr',h',by rw [aexec]; exact h1,h2⟩
theorem zuB {id:Nat} {ops:Array Oper} (r:Draw T ops.toList ops.toList 0 [] fr h (Q .normal)):Run T (.region id ops Od) fr h Q:=by
 obtain ⟨n,fr',h',h1,h2⟩:=r;exact ⟨n+1,.normal,fr',h',by rw [aexec]; simp [h1],h2⟩
theorem zw2 {ops:List Oper} (q:Q .normal fr h):Ops T ops [] fr h Q:=⟨0,_,_,_,rfl,q⟩
theorem zw3 {ops rest:List Oper} {o:Oper} {v:zb} {h':za} (hw:awanted ops fr o.guard=Ob Od) (ha:aop T fr.op h o.op=Ob (.val v h')) (r:Ops T ops rest (putDst fr o.dst v) h' Q):Ops T ops (o::rest) fr h Q:=by
 obtain ⟨n,e,fr',h2,h3,h4⟩:=r;exact ⟨n,e,fr',h2,by simp only [aops,hw,astep,ha]; exact h3,h4⟩
theorem zuC {ops rest:List Oper} {o:Oper} (hw:awanted ops fr o.guard=Ob Oc) (r:Ops T ops rest (putDst fr o.dst unit) h Q):Ops T ops (o::rest) fr h Q:=by
 obtain ⟨n,e,fr',h2,h3,h4⟩:=r;exact ⟨n,e,fr',h2,by simp only [aops,hw]; exact h3,h4⟩
theorem zuD {ops rest:List Oper} {o:Oper} {f:zb} {vs:List zb} (hw:awanted ops fr o.guard=Ob Od) (ha:aop T fr.op h o.op=Ob (.call f vs))
 (r:zjH T f vs h λr h'=>∃ v,r=.ret v/\Ops T ops rest (putDst fr o.dst v) h' Q):Ops T ops (o::rest) fr h Q:=by
 obtain ⟨n,r,h1,h2,v,rfl,m,e,fr',h3,h4,h5⟩:=r;refine ⟨max n m,e,fr',h3, ?_,h5⟩;have c1:=zgN (T:=T) (zd5 (Nat.le_max_left n m)) _ _ _ _ h2;have c2:=zmj (T:=T) (zgN (zd5 (Nat.le_max_right n m))) _ _ _ _ h4;simp only [aops,hw,astep,ha,c1];exact c2
theorem zr6 {ops:List Oper} {j d:Nat} {want b:Bool} (hd:(ops[j]?).bind (λ(o:Oper)=>o.dst)=Ob d) (hv:fr.ev d=.bool b):awanted ops fr (Ob (j,want))=Ob (b==want):=by
 unfold awanted;simp only [hd,hv]
theorem zpT {ops:List Oper} {i:Nat} {done:List (Nat×Foot)} {Q:zg->za->Prop} (q:Q fr h):Draw T ops [] i done fr h Q:=⟨0,_,_,rfl,q⟩
theorem znF {ops rest:List Oper} {o:Oper} {i:Nat} {done:List (Nat×Foot)} {Q:zg->za->Prop} (hw:awanted ops fr o.guard=Ob Oc) (r:Draw T ops rest (i+1) done (putDst fr o.dst unit) h Q):Draw T ops (o::rest) i done fr h Q:=by
 obtain ⟨n,fr',h2,h3,h4⟩:=r;exact ⟨n,fr',h2,by simp only [adraw,hw]; exact h3,h4⟩
theorem zuE {ops rest:List Oper} {o:Oper} {i:Nat} {done:List (Nat×Foot)} {Q:zg->za->Prop} {v:zb} {h':za} {f:Foot} (hw:awanted ops fr o.guard=Ob Od) (ha:aop T fr.op { h with wm:=h.next } o.op=Ob (.val v h'))
 (hf:foot fr.op o=f) (hr:f.rall=Oc) (hk:zcL ops i f done=Od) (r:Draw T ops rest (i+1) ((i,f)::done) (putDst fr o.dst v) { h' with wm:=min h.wm h'.wm } Q):Draw T ops (o::rest) i done fr h Q:=by
 obtain ⟨n,fr',h2,h3,h4⟩:=r;refine ⟨n,fr',h2, ?_,h4⟩;have e:zf9 (foot fr.op o) h h'=f:=by rw [hf]; unfold zf9; rw [hr]; rfl
 simp only [adraw,hw,astep,ha,e,hk,cond_true];exact h3
end
def lay (h:za) (x:Nat):za:={ h with wm:=x }
def Wm (h h1:za) (x:Nat) (h2:za):Prop:=∃ y,h1.wm=min h.wm y/\h2=lay h1 (min x y)
section
variable {T:Tab} {h h1:za} {x:Nat}
theorem Wm.refl:Wm h h x (lay h x):=⟨max h.wm x,by omega,by rw [Nat.min_eq_left (Nat.le_max_right ..)]⟩
theorem Wm.push (b:zf8):Wm h (h.push b) x ((lay h x).push b):=⟨max h.wm x,by simp only [za.push]; omega,by rw [Nat.min_eq_left (Nat.le_max_right ..)]; rfl⟩
theorem Wm.set (k:Nat) (b:zf8):Wm h (h.set k b) x ((lay h x).set k b):=⟨k,rfl,rfl⟩
theorem Wm.move (k:Nat) (a b:zf8):Wm h ((h.set k a).push b) x (((lay h x).set k a).push b):=⟨k,rfl,rfl⟩
theorem zi2 (b:Nat):(lay h x).get b=h.get b:=rfl
theorem zml:(lay h x).next=h.next:=rfl
theorem zr7 {es n:Nat} {v:zb}:arow es n v (lay h x)=arow es n v h:=rfl
theorem zr8 {t:TypeId} {a v:zb}:astore T t h a v=Ob h1->∃ h2,astore T t (lay h x) a v=Ob h2/\Wm h h1 x h2:=by
 unfold astore;simp only [zi2];repeat' split
 all_goals (intro hl; cases hl; try exact ⟨_,rfl,Wm.set ..⟩)
theorem zkm {elem:TypeId} {len n:Nat} {cap:Option Nat} {parts:List (Nat×zb)} {v:zb}:zdb T elem len cap n h parts=Ob (v,h1)->∃ h2,zdb T elem len cap n (lay h x) parts=Ob (v,h2)/\Wm h h1 x h2:=by
 unfold zdb;simp only [zml];repeat' split
 all_goals (intro hl; cases hl; try exact ⟨_,rfl,Wm.push ..⟩)
theorem zio {t:TypeId} {m k v:zb}:zbN T t m k v h=Ob h1->∃ h2,zbN T t m k v (lay h x)=Ob h2/\Wm h h1 x h2:=by
 unfold zbN;simp only [zi2];repeat' split
 all_goals (intro hl; cases hl; try exact ⟨_,rfl,Wm.set ..⟩)
theorem znG {t:TypeId} {m k v:zb}:zcz T t m k h=Ob (v,h1)->∃ h2,zcz T t m k (lay h x)=Ob (v,h2)/\Wm h h1 x h2:=by
 unfold zcz;simp only [zi2];repeat' split
 all_goals (intro hl; cases hl; try exact ⟨_,rfl,Wm.set ..⟩)
theorem zla {m s v:zb}:zbn m s v h=Ob h1->∃ h2,zbn m s v (lay h x)=Ob h2/\Wm h h1 x h2:=by
 unfold zbn;simp only [zi2];repeat' split
 all_goals (intro hl; cases hl; try exact ⟨_,rfl,Wm.set ..⟩)
theorem zuF {ts:Array TypeId} {d s v:zb}:acopy T ts d s h=Ob (v,h1)->∃ h2,acopy T ts d s (lay h x)=Ob (v,h2)/\Wm h h1 x h2:=by
 unfold acopy;simp only [zi2,zr7];repeat' split
 all_goals (intro hl; cases hl<;>first | exact ⟨_,rfl,Wm.refl⟩ | exact ⟨_,rfl,Wm.set ..⟩)
theorem zr9 {st xt:TypeId} {s z v:zb}:azeros T st xt s z h=Ob (v,h1)->∃ h2,azeros T st xt s z (lay h x)=Ob (v,h2)/\Wm h h1 x h2:=by
 unfold azeros;simp only [zml];repeat' split
 all_goals (intro hl; cases hl<;>exact ⟨_,rfl,Wm.push ..⟩)
theorem zqZ {ts:Array TypeId} {s z v:zb}:aappend T ts s z h=Ob (v,h1)->∃ h2,aappend T ts s z (lay h x)=Ob (v,h2)/\Wm h h1 x h2:=by
 unfold aappend;simp only [zi2,zr7,zml];repeat' split
 all_goals first | exact zr9 | (intro hl; cases hl<;>first | exact ⟨_,rfl,Wm.refl⟩ | exact ⟨_,rfl,Wm.set ..⟩ | exact ⟨_,rfl,Wm.push ..⟩ | exact ⟨_,rfl,Wm.move ..⟩)
theorem zgq {y:Option zb} {v:zb} (e:zae h y=Ob (.val v h1)):∃ h2,zae (lay h x) y=Ob (.val v h2)/\Wm h h1 x h2:=by
 obtain ⟨rfl,rfl⟩:=zH e;exact ⟨_,rfl,Wm.refl⟩
theorem zzr {ev:Operand->zb} {o:Op} {v:zb} (hl:aop T ev h o=Ob (.val v h1)):∃ h2,aop T ev (lay h x) o=Ob (.val v h2)/\Wm h h1 x h2:=by
 have pair:∀ {y y':Option (zb×za)},zfm y=Ob (.val v h1)->(y=Ob (v,h1)->∃ h2,y'=Ob (v,h2)/\Wm h h1 x h2)->∃ h2,zfm y'=Ob (.val v h2)/\Wm h h1 x h2:=by
  intro y y' e k;obtain ⟨h2,rfl,w⟩:=k (za6 e);exact ⟨h2,rfl,w⟩
 have heap:∀ {y y':Option za},zfn y=Ob (.val v h1)->(y=Ob h1->∃ h2,y'=Ob h2/\Wm h h1 x h2)->∃ h2,zfn y'=Ob (.val v h2)/\Wm h h1 x h2:=by
  intro y y' e k;obtain ⟨e1,rfl⟩:=zbO e;obtain ⟨h2,rfl,w⟩:=k e1;exact ⟨h2,rfl,w⟩
 cases o<;>simp only [aop] at hl ⊢<;>(try (cases hl; done))<;>(try exact zgq hl)
 case move=>cases hl; exact ⟨_,rfl,Wm.refl⟩
 case assign=>cases hl; exact ⟨_,rfl,Wm.refl⟩
 case pick=>revert hl; unfold zie; split<;>intro hl<;>cases hl; exact ⟨_,rfl,Wm.refl⟩
 case alloc=>revert hl; unfold zgg; split<;>intro hl<;>cases hl; exact ⟨_,rfl,Wm.push ..⟩
 case box=>revert hl; unfold zj7; split<;>intro hl<;>cases hl; exact ⟨_,rfl,Wm.push ..⟩
 case buildSlice=>
  refine pair hl ?_;unfold zd8;repeat' split
  all_goals first | exact zkm | (intro q; cases q; done)
 case store=>exact heap hl zr8
 case nilCheck=>revert hl; unfold zdC; split<;>intro hl<;>cases hl<;>exact ⟨_,rfl,Wm.refl⟩
 case makeInterface=>revert hl; unfold zcV; split<;>intro hl<;>cases hl; exact ⟨_,rfl,Wm.refl⟩
 case makeFunc=>revert hl; unfold zdD; split<;>intro hl<;>cases hl; exact ⟨_,rfl,Wm.refl⟩
 case makeMap=>revert hl; unfold ze4; split<;>intro hl<;>cases hl; exact ⟨_,rfl,Wm.push ..⟩
 case makeSlice=>
  refine pair hl ?_;unfold zeK;repeat' split
  all_goals first | exact zkm | (intro q; cases q; done)
 case mapUpdate=>exact heap hl zio
 case insert=>exact heap hl zio
 case mapEntry=>exact pair hl znG
 case entryStore=>exact heap hl zla
 case extract=>
  revert hl; unfold zfN;split
  . intro hl; exact zgq hl
  . intro hl; cases hl
 case call c=>
  revert hl; unfold zc4;split
  . unfold abuiltin;split
    . split
      . intro hl; exact zgq hl
      . intro hl; cases hl
    . split
      . intro hl; exact zgq hl
      . intro hl; cases hl
    . intro hl; exact pair hl zqZ
    . intro hl; exact pair hl zuF
    . intro hl; exact zgq hl
    . intro hl; exact zgq hl
    . intro hl; cases hl
  . intro hl; cases hl
  . intro hl; cases hl
structure Quiet (h h':za):Prop where
 next:h.next<=h'.next
 same:∀ b,b<h.next->h'.get b=h.get b
 wm:min h.wm h.next<=h'.wm
 ok:h.wm<=h.next->h'.wm<=h'.next
theorem Quiet.refl (h:za):Quiet h h:=⟨Nat.le_refl _,λ_ _=>rfl,Nat.min_le_left _ _,id⟩
theorem Quiet.set {h0 h:za} (q:Quiet h0 h) (b:Nat) (x:zf8) (hb:h0.next<=b):Quiet h0 (h.set b x):=by
 refine ⟨q.next,λk hk=>?_, ?_,λk=>?_⟩
 . rw [za.get_set,if_neg J]; exact q.same k hk
 . show min h0.wm h0.next<=min h.wm b;have:=q.wm; omega
 . have:=q.ok k;show min h.wm b<=h.next;omega
theorem Quiet.get {h h':za} (q:Quiet h h') {b:Nat} {x:zf8} (hg:h.get b=Ob x) (hb:b<h.next):h'.get b=Ob x:=by rw [q.same b hb]; exact hg
theorem zsa {ops rest:List Oper} {o:Oper} {i:Nat} {done:List (Nat×Foot)} {fr:zg} {Q:zg->za->Prop} {v:zb} {f:Foot} (hw:awanted ops fr o.guard=Ob Od) (ha:aop T fr.op h o.op=Ob (.val v h1)) (hwm:h.wm<=h.next)
 (hf:foot fr.op o=f) (hk:zcL ops i f done=Od) (r:Draw T ops rest (i+1) ((i,f)::done) (putDst fr o.dst v) h1 Q):Draw T ops (o::rest) i done fr h Q:=by
 obtain ⟨h2,e1,y,e2,e3⟩:=zzr (x:=h.next) ha;refine zuE hw e1 hf (by rw [← hf]; exact (zmf ha).1) hk ?_;have e4:({ h2 with wm:=min h.wm h2.wm }:za)=h1:=by
  subst e3;show ({ h1 with wm:=min h.wm (min h.next y) }:za)=h1;have:min h.wm (min h.next y)=h1.wm:=by rw [e2]; omega
  rw [this]
 rw [e4];exact r
theorem zkn {ops rest:List Oper} {o:Oper} {i:Nat} {done:List (Nat×Foot)} {fr:zg} {Q:zg->za->Prop} {f:zb} {vs:List zb} (hw:awanted ops fr o.guard=Ob Od) (ha:aop T fr.op h o.op=Ob (.call f vs)) (hwm:h.wm<=h.next)
 (hk:zcL ops i ⟨[],Od,[],Oc⟩ done=Od)
 (r:zjH T f vs { h with wm:=h.next } λr h1=>∃ v,r=.ret v/\Quiet { h with wm:=h.next } h1/\Draw T ops rest (i+1) ((i,⟨[],Od,[],Oc⟩)::done) (putDst fr o.dst v) { h1 with wm:=min h.wm h1.wm } Q):Draw T ops (o::rest) i done fr h Q:=by
 obtain ⟨n,r,h1,h2,v,rfl,q,m,fr',h3,h4,h5⟩:=r;have ha':aop T fr.op { h with wm:=h.next } o.op=Ob (.call f vs):=by
  obtain ⟨c,fo,ho,hc,e1,e2⟩:=zc5 ha;rw [ho];simp only [aop,zc4,hc,e1,e2]
 have hq:Nat.ble h.next h1.wm=Od:=by
  have:=q.wm;simp at this;exact Nat.ble_eq_true_of_le this
 have e:zf9 (foot fr.op o) h h1=⟨[],Od,[],Oc⟩:=by rw [zim ha]; unfold zf9; simp [hq]
 refine ⟨max n m,fr',h3, ?_,h5⟩;have c1:=zgN (T:=T) (zd5 (Nat.le_max_left n m)) _ _ _ _ h2;have c2:=zin (T:=T) (zgN (zd5 (Nat.le_max_right n m))) _ _ _ _ _ _ h4;simp only [adraw,hw,astep,ha',c1,e,hk,cond_true];exact c2
end
structure zrD (h h':za):Prop where
 next:h.next<=h'.next
 same:∀ b,b<h.next->h'.get b=h.get b
 wm:h.wm<=h.next->h'.wm<=h'.next
theorem zrD.refl (h:za):zrD h h:=⟨Nat.le_refl _,λ_ _=>rfl,id⟩
theorem zrD.trans {a b c:za} (h:zrD a b) (h':zrD b c):zrD a c:=
 ⟨Nat.le_trans h.next h'.next,λk hk=>(h'.same k (Nat.lt_of_lt_of_le hk h.next)).trans (h.same k hk),λq=>h'.wm (h.wm q)⟩
theorem zrD.push (h:za) (x:zf8):zrD h (h.push x):=
 ⟨by simp [za.next_push],λb hb=>by rw [za.get_push,if_neg J],λq=>Nat.le_succ_of_le q⟩
def Store:Type:=Nat->Option zf8
def Store.le (z z':Store):Prop:=∀ b x,z b=Ob x->z' b=Ob x
theorem Store.le.refl (z:Store):z.le z:=λ_ _ h=>h
theorem Store.le.trans {a b c:Store} (h:a.le b) (h':b.le c):a.le c:=λk x hk=>h' k x (h k x hk)
def za.st (h:za):Store:=λb=>if b<h.next then h.get b else Oe
theorem za.st_lt {h:za} {b:Nat} {x:zf8} (e:h.st b=Ob x):b<h.next/\h.get b=Ob x:=by
 unfold za.st at e;split at e
 . exact ⟨by assumption,e⟩
 . cases e
theorem za.st_of {h:za} {b:Nat} {x:zf8} (hb:b<h.next) (e:h.get b=Ob x):h.st b=Ob x:=by
 unfold za.st; rw [if_pos hb]; exact e
theorem zrD.st {h h':za} (e:zrD h h'):h.st.le h'.st:=λb x hb=>by
 obtain ⟨h1,h2⟩:=za.st_lt hb;exact za.st_of (Nat.lt_of_lt_of_le h1 e.next) (by rw [e.same b h1]; exact h2)
structure Rep (A:Type) where
 sz:Nat
 agg:Bool
 rel:Store->List zb->A->Prop
 len:∀ z cs x,rel z cs x->cs.length=sz
 mono:∀ z z' cs x,z.le z'->rel z cs x->rel z' cs x
 one:agg=Oc->sz=1
 ones:∀ z cs x,rel z cs x->cs.all zb.one=Od
def zi (k:IntKind):Rep Int:=
 ⟨1,Oc,λ_ cs x=>cs=[.int k x]/\k.min<=x/\x<=k.max,λ_ _ _ h=>by rw [h.1]; rfl,λ_ _ _ _ _ h=>h,λ_=>rfl,λ_ _ _ h=>by rw [h.1]; rfl⟩
def zaS:Rep Bool:=⟨1,Oc,λ_ cs x=>cs=[.bool x],λ_ _ _ h=>by rw [h]; rfl,λ_ _ _ _ _ h=>h,λ_=>rfl,λ_ _ _ h=>by rw [h]; rfl⟩
def zgO {A:Type} (R:Rep A) (z:Store) (v:zb) (xs:List A):Prop:=
 xs.length<=maxLen/\((v=.nsz/\xs=[])\/(∃ b off cap,v=.slice b off 0 R.sz cap/\xs=[]/\z b=Ob .dead) \/
  ∃ b off cap cells ro,v=.slice b off xs.length R.sz cap/\z b=Ob (.arr cells ro)/\off+xs.length*R.sz<=cells.length/\(∀ c,cap=Ob c->xs.length<=c) /\
   ∀ i x,xs[i]?=Ob x->R.rel z ((cells.drop (off+i*R.sz)).take R.sz) x)
theorem zgO.mono {A:Type} {R:Rep A} {z z':Store} {v:zb} {xs:List A} (e:z.le z') (r:zgO R z v xs):zgO R z' v xs:=by
 obtain ⟨r0,r⟩:=r;refine ⟨r0, ?_⟩;rcases r with r | ⟨b,off,cap,r1,r2,r4⟩ | ⟨b,off,cap,cells,ro,r1,r3,r4,r6,r5⟩
 . exact .inl r
 . exact .inr (.inl ⟨b,off,cap,r1,r2,e _ _ r4⟩)
 . exact .inr (.inr ⟨b,off,cap,cells,ro,r1,e _ _ r3,r4,r6,λi x hx=>R.mono _ _ _ _ e (r5 i x hx)⟩)
theorem zgO.one {A:Type} {R:Rep A} {z:Store} {v:zb} {xs:List A} (r:zgO R z v xs):v.one=Od:=by
 rcases r.2 with ⟨rfl,_⟩ | ⟨b,off,cap,rfl,_⟩ | ⟨b,off,cap,cells,ro,rfl,_⟩<;>rfl
def ze {A:Type} (R:Rep A):Rep (List A):=
 ⟨1,Oc,λz cs xs=>∃ v,cs=[v]/\zgO R z v xs,λ_ _ _ h=>by obtain ⟨v,h,_⟩:=h; rw [h]; rfl,λ_ _ _ _ e h=>let ⟨v,h1,h2⟩:=h; ⟨v,h1,h2.mono e⟩,
  λ_=>rfl,λ_ _ _ h=>by obtain ⟨v,h,r⟩:=h; rw [h]; simp [r.one]⟩
def zcS:Rep Unit:=⟨0,Od,λ_ cs _=>cs=[],λ_ _ _ h=>by rw [h]; rfl,λ_ _ _ _ _ h=>h,λh=>(by cases h),λ_ _ _ h=>by rw [h]; rfl⟩
def zI {A B:Type} (R:Rep A) (S:Rep B):Rep (A×B):=
 ⟨R.sz+S.sz,Od,λz cs x=>∃ c1 c2,cs=c1++c2/\R.rel z c1 x.1/\S.rel z c2 x.2,
  λh cs x r=>by obtain ⟨c1,c2,rfl,r1,r2⟩:=r; rw [List.length_append,R.len _ _ _ r1,S.len _ _ _ r2],
  λ_ _ _ _ e r=>let ⟨c1,c2,r0,r1,r2⟩:=r; ⟨c1,c2,r0,R.mono _ _ _ _ e r1,S.mono _ _ _ _ e r2⟩,
  λh=>(by cases h),λz cs x r=>by obtain ⟨c1,c2,rfl,r1,r2⟩:=r; rw [List.all_append,R.ones _ _ _ r1,S.ones _ _ _ r2]; rfl⟩
def znH (V:Emb) (h:za):Prop:=∀ b l,V b=Ob l->¬ Owns h b
structure Lay (W:World) (V:Emb) (h:za) (V':Emb) (h':za):Prop where
 ext:Ext V V'
 heap:zeH W.heap.size V' h' W
 none:znH V' h'
 grow:zrD h h'
theorem Lay.trans {W:World} {V V1 V2:Emb} {h h1 h2:za} (a:Lay W V h V1 h1) (b:Lay W V1 h1 V2 h2):Lay W V h V2 h2:=
 ⟨a.ext.trans b.ext,b.heap,b.none,a.grow.trans b.grow⟩
theorem Lay.push {W:World} {V:Emb} {h:za} (hr:zeH W.heap.size V h W) (hn:znH V h) (x:zf8) (l:Loc) (hl:l.c<W.heap.size) (hb:zoG W.heap.size V (Ob x) l W) (ho:∀ c,x=.arr c Od\/x=.dead->True) (hx:(∃ c,x=.arr c Od)\/x=.dead) :
 Lay W V h (V.add h.next l) (h.push x):=by
 have hfr:=hr.none_next;have hnx:¬ Owns (h.push x) h.next:=by
  unfold Owns;rw [za.get_push,if_pos rfl];rcases hx with ⟨c,rfl⟩ | rfl<;>exact λq=>q
 have hno:znH (V.add h.next l) (h.push x):=by
  intro b l' hb';by_cases e:b=h.next
  . subst e; exact hnx
  . rw [Emb.add_ne _ _ _ e] at hb';rw [zka e];exact hn b l' hb'
 refine ⟨Ext.add hfr,⟨⟨?_, ?_, ?_,hr.base⟩, ?_⟩,hno,zrD.push _ _⟩
 . intro b l' hb';by_cases e:b=h.next
   . subst e; rw [Emb.add_same] at hb'; cases hb'; exact hl
   . rw [Emb.add_ne _ _ _ e] at hb'; exact hr.clt b l' hb'
 . intro b l' hb';rw [za.get_push];by_cases e:b=h.next
   . subst e; rw [Emb.add_same] at hb'; cases hb'; rw [if_pos rfl]; exact hb.mono (Ext.add hfr) rfl
   . rw [Emb.add_ne _ _ _ e] at hb'; rw [if_neg e]; exact (hr.blk b l' hb').mono (Ext.add hfr) rfl
 . intro b b' l' l'' hb' _ _ ho' _;exact absurd ho' (hno b l' hb')
 . intro b l' hb';rw [za.next_push];by_cases e:b=h.next
   . omega
   . rw [Emb.add_ne _ _ _ e] at hb';have:=hr.lt b l' hb';omega
def Opens (P:Program) {A:Type} (t:TypeId) (R:Rep A):Prop:=
 P.cellsOf t=R.sz/\R.agg=(match P.underlying t with | some (.struct _)=>Od | _=>Oc)/\∀ (H:Type) (enc:TypeId×Value->H) (W:World) (fuel:Nat) (cs:List Value) (x:DataW H×List MemPlace),0<W.heap.size ->
  DataW.trod enc P W 0 (λ_=>Od) Od fuel t cs=Ob x->∀ (V:Emb) (h:za),zeH W.heap.size V h W->znH V h ->
   ∃ V' h' cells d,Lay W V h V' h'/\zcB V' cells cs/\R.rel h'.st cells d
section
variable {P:Program}
theorem znI {t:TypeId} {k:IntKind} (ht:P.underlying t=Ob (.int k)) (hc:P.cellsOf t=1):Opens P t (zi k):=by
 refine ⟨hc,by rw [ht]; rfl,λH enc W fuel cs x _ hx V h hr hn=>?_⟩;obtain ⟨n,rfl,_,hw⟩:=DataW.trod_int ht hx;simp only [Lit.wf,Bool.and_eq_true,decide_eq_true_eq] at hw;exact ⟨V,h,[.int k n],n,⟨.refl _,hr,hn,.refl _⟩,.cons (.int k n) (.nil _),rfl,hw.1,hw.2⟩
theorem zq0 {t:TypeId} (ht:P.underlying t=Ob .bool) (hc:P.cellsOf t=1):Opens P t zaS:=by
 refine ⟨hc,by rw [ht]; rfl,λH enc W fuel cs x _ hx V h hr hn=>?_⟩;obtain ⟨b,rfl,_⟩:=DataW.trod_bool ht hx;exact ⟨V,h,[.bool b],b,⟨.refl _,hr,hn,.refl _⟩,.cons (.bool b) (.nil _),rfl⟩
theorem zjv (a:Addr) (m n:Nat):(a.add m).add n=a.add (m+n):=by
 unfold Addr.add;by_cases h1:n=0
 . subst h1; simp
 . by_cases h2:m=0
   . subst h2; simp
   . rw [if_neg h1,if_neg h2,if_neg J];simp [Nat.add_assoc]
theorem zlE {A:Type} {e:TypeId} {R:Rep A} (ho:Opens P e R) {H:Type} {enc:TypeId×Value->H} {W:World} (hpos:0<W.heap.size) {fuel:Nat} :
    ∀ (css:List (List Value)),(∀ cs∈css,∃ x,DataW.trod enc P W 0 (λ_=>Od) Od fuel e cs=Ob x)->∀ (V:Emb) (h:za),zeH W.heap.size V h W->znH V h ->
      ∃ (V':Emb) (h':za) (cellss:List (List zb)) (xs:List A),Lay W V h V' h'/\cellss.length=css.length/\xs.length=css.length/\zcB V' cellss.flatten css.flatten /\
        ∀ (i:Nat) (c:List zb) (x:A),cellss[i]?=Ob c->xs[i]?=Ob x->R.rel h'.st c x
  | [],_,V,h,hr,hn=>⟨V,h,[],[],⟨.refl _,hr,hn,.refl _⟩,rfl,rfl,.nil _,by simp⟩
  | cs::css,hall,V,h,hr,hn=>by
    obtain ⟨x,hx⟩:=hall cs (List.mem_cons_self ..);obtain ⟨V1,h1,c1,d1,l1,r1,q1⟩:=ho.2.2 H enc W fuel cs x hpos hx V h hr hn;obtain ⟨V2,h2,cells2,xs,l2,e1,e2,r2,q2⟩:=zlE ho hpos css (λc hc=>hall c (List.mem_cons_of_mem _ hc)) V1 h1 l1.heap l1.none;refine ⟨V2,h2,c1::cells2,d1::xs,l1.trans l2,by simp [e1],by simp [e2], ?_, ?_⟩
    · simp only [List.flatten_cons];exact (r1.mono l2.ext).append r2
    · intro i c y hc hy;cases i with
      | zero=>
        simp at hc hy;subst hc hy;exact R.mono _ _ _ _ l2.grow.st q1
      | succ i=>exact q2 i c y (by simpa using hc) (by simpa using hy)
theorem zgP {α:Type} {n:Nat}:∀ (ls:List (List α)),(∀ l∈ls,l.length=n)->ls.flatten.length=ls.length*n/\∀ i l,ls[i]?=Ob l->(ls.flatten.drop (i*n)).take n=l
 | [],_=>⟨by simp,by simp⟩
 | l::ls,h=>by
  obtain ⟨h1,h2⟩:=zgP ls (λx hx=>h x (List.mem_cons_of_mem _ hx));have hl:=h l (List.mem_cons_self ..);refine ⟨by simp [h1,hl,Nat.add_mul]; omega,λi x hx=>?_⟩;cases i with
  | zero=>
   simp at hx;subst hx;simp [← hl]
  | succ i=>
   have:=h2 i x (by simpa using hx);have e:(l::ls).flatten.drop ((i+1)*n)=ls.flatten.drop (i*n):=by
    rw [List.flatten_cons,show (i+1)*n=l.length+i*n from by rw [hl,Nat.add_mul]; omega,List.drop_append,List.drop_eq_nil_of_le J];simp
   rw [e]; exact this
theorem zoX {α:Type} {n:Nat} (hn:0<n) (ls:List (List α)) (h:∀ l∈ls,l.length=n) (k:Nat) (x:α) (hk:ls.flatten[k]?=Ob x):∃ l,ls[k/n]?=Ob l/\l[k%n]?=Ob x:=by
 obtain ⟨h1,h2⟩:=zgP ls h;have hlt:k<ls.length*n:=by rw [← h1]; exact (List.getElem?_eq_some_iff.1 hk).1
 have hd:k/n<ls.length:=by rw [Nat.div_lt_iff_lt_mul hn]; exact hlt
 refine ⟨ls[k/n],List.getElem?_eq_getElem hd, ?_⟩;rw [← h2 (k/n) _ (List.getElem?_eq_getElem hd),List.getElem?_take,if_pos (Nat.mod_lt _ hn),List.getElem?_drop];rw [show k/n*n+k%n=k from by rw [Nat.mul_comm]; exact Nat.div_add_mod k n];exact hk
theorem zdc {A:Type} {t e:TypeId} {R:Rep A} (ht:P.underlying t=Ob (.slice e)) (hc:P.cellsOf t=1) (ho:Opens P e R) (hsz:0<R.sz):Opens P t (ze R):=by
 refine ⟨hc,by rw [ht]; rfl,λH enc W fuel cs x hpos hx V h hr hn=>?_⟩;rcases DataW.trod_slice ht hx with ⟨rfl,_⟩ | ⟨a,len,cap,elems,rest,n,rfl,rfl,_,_,hlc,hcm,hel,helems,hrest,_⟩
 ·exact ⟨V,h,[.nsz],[],⟨.refl _,hr,hn,.refl _⟩,.cons .nsz (.nil _),_,rfl,by simp [maxLen],.inl ⟨rfl,rfl⟩⟩
 ·obtain ⟨hrl,hrest⟩:=hrest rfl;have hce:=ho.1
  -- every element up to the capacity can be read
  have read:∀ i,i<cap->∃ ci x,W.cells? 0 (a.add (i*R.sz)) R.sz=Ob ci/\DataW.trod enc P W 0 (λ_=>Od) Od n e ci=Ob x:=by
   intro i hi;by_cases hil:i<len
   ·have h1:=helems i hil;rw [List.getElem?_eq_getElem J,Option.bind_eq_some_iff] at h1;obtain ⟨ci,h1,h2⟩:=h1;rw [hce] at h1;exact ⟨ci,_,h1,h2⟩
   ·have h1:=hrest (i-len) J;rw [List.getElem?_eq_getElem J,Option.bind_eq_some_iff] at h1;obtain ⟨ci,h1,h2⟩:=h1;rw [hce,show len+(i-len)=i from by omega] at h1;exact ⟨ci,_,h1,h2⟩
  by_cases hc0:cap=0
  ·have hl0:len=0:=J
   subst hc0 hl0;have hlay:=Lay.push hr hn .dead ⟨0,0,0⟩ hpos trivial (λ_ _=>trivial) (.inr rfl);refine ⟨_,_,[.slice h.next 0 0 R.sz Oe],[],hlay,.cons (.slice h.next 0 0 R.sz Oe ⟨0,0,0⟩ a 0 (Emb.add_same _ _ _) (Nat.le_refl _) (λk hk=>by cases hk) (.inl rfl)) (.nil _),_,rfl,by simp [maxLen],.inr (.inl ⟨h.next,0,Oe,rfl,rfl, ?_⟩)⟩;exact za.st_of (by rw [za.next_push]; omega) (by rw [za.get_push,if_pos rfl])
  ·-- the block
   have hcell:∀ k,k<cap*R.sz->∃ v,W.cell? (a.add k)=Ob v:=by
    intro k hk;have hd:k/R.sz<cap:=by rw [Nat.div_lt_iff_lt_mul hsz]; exact hk
    obtain ⟨ci,_,h1,_⟩:=read (k/R.sz) hd;obtain ⟨_,h2,h3⟩:=World.cells?_some h1;have hm:=Nat.mod_lt k hsz;have h4:=h3 (k%R.sz) hm;rw [zjv,show k/R.sz*R.sz+k%R.sz=k from by rw [Nat.mul_comm]; exact Nat.div_add_mod k _,List.getElem?_eq_getElem J] at h4;exact ⟨_,h4⟩
   have hcs:0<cap*R.sz:=Nat.mul_pos J hsz;obtain ⟨v0,hv0⟩:=hcell 0 hcs;have ha0:a.add 0=a:=by simp [Addr.add]
   rw [ha0] at hv0;unfold World.cell? at hv0;split at hv0
   case h_2=>cases hv0
   rename_i cc el fz hblk;have hspot:a.spot=Oe:=by
    cases hs:a.spot with
    | none=>rfl
    | some q=>rw [hs] at hv0; simp at hv0
   have hadd:∀ k,W.cell? (a.add k)=cc[a.off+k]?:=by
    intro k;unfold World.cell? Addr.add;by_cases hk:k=0
    ·subst hk; simp [hblk,hspot]
    ·simp [hk,hblk]
   have hfit:a.off+cap*R.sz<=cc.size:=by
    obtain ⟨v,hv⟩:=hcell (cap*R.sz-1) J;rw [hadd] at hv;have:=(Array.getElem?_eq_some_iff.1 hv).1;omega
   have hblt:a.block<W.heap.size:=(Array.getElem?_eq_some_iff.1 hblk).1
   -- the elements
   have hpieces:∀ i,i<len->∃ x,DataW.trod enc P W 0 (λ_=>Od) Od n e ((cc.toList.drop (a.off+i*R.sz)).take R.sz)=Ob x:=by
    intro i hi;obtain ⟨ci,x,h1,h2⟩:=read i J;obtain ⟨_,h3,h4⟩:=World.cells?_some h1;have:ci=(cc.toList.drop (a.off+i*R.sz)).take R.sz:=by
     apply List.ext_getElem?;intro j;by_cases hj:j<R.sz
     ·rw [← h4 j hj,zjv,hadd,List.getElem?_take,if_pos hj,List.getElem?_drop,Nat.add_assoc];simp
     ·rw [List.getElem?_eq_none J,List.getElem?_eq_none Oj]
    exact ⟨x,by rw [← this]; exact h2⟩
   obtain ⟨V1,h1,cellss,xs,l1,e1,e2,r1,q1⟩:=zlE ho hpos (enc:=enc) (fuel:=n) ((List.range len).map λi=>(cc.toList.drop (a.off+i*R.sz)).take R.sz) (by
    intro c hc;obtain ⟨i,hi,rfl⟩:=List.mem_map.1 hc;exact hpieces i (List.mem_range.1 hi)) V h hr hn
   simp only [List.length_map,List.length_range] at e1 e2;have hclen:∀ c∈cellss,c.length=R.sz:=by
    intro c hc;obtain ⟨i,hi,rfl⟩:=List.getElem_of_mem hc;exact R.len _ _ _ (q1 i _ xs[i] (List.getElem?_eq_getElem hi) (List.getElem?_eq_getElem J))
   obtain ⟨fl,fp⟩:=zgP cellss hclen;have hplen:∀ c∈(List.range len).map (λi=>(cc.toList.drop (a.off+i*R.sz)).take R.sz),c.length=R.sz:=by
    intro c hc;obtain ⟨i,hi,rfl⟩:=List.mem_map.1 hc;have hi:=List.mem_range.1 hi;have:(i+1)*R.sz<=cap*R.sz:=Nat.mul_le_mul_right _ J;rw [Nat.add_mul] at this;simp;omega
   have hbr:zoG W.heap.size V1 (Ob (.arr cellss.flatten Od)) ⟨a.block,a.off,cc.size⟩ W:=by
    refine ⟨cc,el,fz,hblk,rfl, ?_,λi v hv=>?_,λq=>by cases q⟩
    ·have:len*R.sz<=cap*R.sz:=Nat.mul_le_mul_right _ hlc;simp only [fl,e1];omega
    ·obtain ⟨v',hv',hrel⟩:=r1.at hv;obtain ⟨l,hl1,hl2⟩:=zoX hsz _ hplen i v' hv';rw [List.getElem?_map] at hl1;cases hr':(List.range len)[i/R.sz]? with
     | none=>rw [hr'] at hl1; cases hl1
     | some q=>
      rw [hr'] at hl1;cases hl1;have hq:q=i/R.sz:=by
       obtain ⟨h1,h2⟩:=List.getElem?_eq_some_iff.1 hr';simpa using h2.symm
      subst hq;rw [List.getElem?_take,if_pos (Nat.mod_lt _ hsz),List.getElem?_drop] at hl2;rw [Nat.add_assoc,show i/R.sz*R.sz+i%R.sz=i from by rw [Nat.mul_comm]; exact Nat.div_add_mod i _] at hl2;exact ⟨v',by simpa using hl2,hrel⟩
   have hlay:=Lay.push l1.heap l1.none (.arr cellss.flatten Od) ⟨a.block,a.off,cc.size⟩ hblt hbr (λ_ _=>trivial) (.inl ⟨_,rfl⟩);refine ⟨_,_,[.slice h1.next 0 len R.sz Oe],xs,l1.trans hlay,.cons (.slice h1.next 0 len R.sz Oe ⟨a.block,a.off,cc.size⟩ a cap (Emb.add_same _ _ _) hlc (λk hk=>by cases hk) (.inr ⟨?_,by simpa using hfit⟩)) (.nil _),_,rfl,by omega,.inr (.inr ⟨h1.next,0,Oe,cellss.flatten,Od,by rw [e2], ?_, ?_,λc q=>(nomatch q), ?_⟩)⟩
   ·obtain ⟨ab,ao,as⟩:=a; simp at hspot; subst hspot; rfl
   ·exact za.st_of (by rw [za.next_push]; omega) (by rw [za.get_push,if_pos rfl])
   ·rw [fl,e1,e2]; omega
   ·intro i x hx;have hi:i<xs.length:=(List.getElem?_eq_some_iff.1 hx).1;rw [Nat.zero_add,fp i _ (List.getElem?_eq_getElem J)];exact R.mono _ _ _ _ hlay.grow.st (q1 i _ x (List.getElem?_eq_getElem J) hx)
def zlF (P:Program) {A:Type} (fs:List Field) (o:Nat) (R:Rep A):Prop:=
 ∀ (H:Type) (enc:TypeId×Value->H) (W:World) (fuel:Nat) (cs:List Value),0<W.heap.size->cs.length=o+R.sz ->
  (∀ f∈fs,∃ x,DataW.trod enc P W 0 (λ_=>Od) Od fuel f.type ((cs.drop f.offset).take (P.cellsOf f.type))=Ob x)->∀ (V:Emb) (h:za),zeH W.heap.size V h W->znH V h ->
   ∃ V' h' cells d,Lay W V h V' h'/\zcB V' cells (cs.drop o)/\R.rel h'.st cells d
theorem zck (o:Nat):zlF P [] o zcS:=by
 intro H enc W fuel cs _ hl _ V h hr hn;refine ⟨V,h,[],(),⟨.refl _,hr,hn,.refl _⟩, ?_,rfl⟩;rw [List.drop_eq_nil_of_le (by rw [hl]; simp [zcS])];exact .nil _
theorem zoY {A B:Type} {f:Field} {fs:List Field} {o:Nat} {R:Rep A} {S:Rep B} (hf:f.offset=o) (ho:Opens P f.type R) (hs:zlF P fs (o+R.sz) S):zlF P (f::fs) o (zI R S):=by
 intro H enc W fuel cs hpos hl hall V h hr hn;obtain ⟨x,hx⟩:=hall f (List.mem_cons_self ..);rw [hf,ho.1] at hx;obtain ⟨V1,h1,c1,d1,l1,r1,q1⟩:=ho.2.2 H enc W fuel _ x hpos hx V h hr hn;obtain ⟨V2,h2,c2,d2,l2,r2,q2⟩:=hs H enc W fuel cs hpos (by rw [hl]; simp [zI]; omega) (λg hg=>hall g (List.mem_cons_of_mem _ hg)) V1 h1 l1.heap l1.none;refine ⟨V2,h2,c1++c2,(d1,d2),l1.trans l2, ?_,c1,c2,rfl,R.mono _ _ _ _ l2.grow.st q1,q2⟩;have e:cs.drop o=(cs.drop o).take R.sz++cs.drop (o+R.sz):=by
  rw [show cs.drop (o+R.sz)=(cs.drop o).drop R.sz from by rw [List.drop_drop]];exact (List.take_append_drop _ _).symm
 rw [e];exact (r1.mono l2.ext).append r2
theorem zbh {A:Type} {t:TypeId} {fs:Array Field} {R:Rep A} (ht:P.underlying t=Ob (.struct fs)) (hc:P.cellsOf t=R.sz) (hag:R.agg=Od) (ho:zlF P fs.toList 0 R):Opens P t R:=by
 refine ⟨hc,by rw [ht]; exact hag,λH enc W fuel cs x hpos hx V h hr hn=>?_⟩;obtain ⟨xs,n,rfl,_,h1,h2,h3⟩:=DataW.trod_struct ht hx;obtain ⟨V',h',cells,d,l,r,q⟩:=ho H enc W n cs hpos (by rw [h1,hc]; omega) (λf hf=>by
  obtain ⟨i,hi,rfl⟩:=List.getElem_of_mem hf;have hi':i<fs.size:=by simpa using hi
  have:=h3 i fs.toList[i] (by simp [hi']);rw [List.getElem?_eq_getElem J] at this;exact ⟨_,this⟩) V h hr hn
 exact ⟨V',h',cells,d,l,by simpa using r,q⟩
def zb.isAgg:zb->Bool
 | .agg _=>Od
 | _=>Oc
structure TV {A:Type} (R:Rep A) (z:Store) (v:zb) (x:A):Prop where
 rel:R.rel z v.cells x
 agg:v.isAgg=R.agg
theorem TV.mono {A:Type} {R:Rep A} {z z':Store} {v:zb} {x:A} (e:z.le z') (t:TV R z v x):TV R z' v x:=⟨R.mono _ _ _ _ e t.rel,t.agg⟩
theorem zsb {A:Type} {t:TypeId} {R:Rep A} (ho:Opens P t R) {H:Type} {enc:TypeId×Value->H} {W:World} {base:Nat} {v:Value} {d:DataW H} {ps:List MemPlace} (hpos:0<W.heap.size)
    (hok:Value.okWide P W .any base t v) (hflat:(match P.underlying t with | some (.int _) | some .bool | some (.slice _) | some (.struct _)=>Od | _=>Oc)=Od)
    (hd:DataW.Trod enc P W 0 (λ_=>Od) Od t v d ps) {V:Emb} {h:za} (hr:zeH W.heap.size V h W) (hn:znH V h) :
    ∃ V' h' a x,Lay W V h V' h'/\zag V' a v/\TV R h'.st a x:=by
  obtain ⟨fuel,hd⟩:=hd;obtain ⟨V',h',cells,x,l,r,q⟩:=ho.2.2 H enc W fuel _ _ hpos hd V h hr hn;have scal:R.agg=Oc->v.cells=#[v]->(∀ cs,v≠.agg cs)->∃ V' h' a x,Lay W V h V' h'/\zag V' a v/\TV R h'.st a x:=by
    intro hag e hna;rw [e] at r;cases cells with
    | nil=>have:=r.1; simp at this
    | cons c rest=>
      cases rest with
      | cons _ _=>have:=r.1; simp at this
      | nil=>
        have hv:zag V' c v:=r.head;refine ⟨V',h',c,x,l,hv, ?_⟩;have:c.cells=[c]/\c.isAgg=Oc:=by
          cases c with
          | agg cs=>cases hv; exact absurd rfl (hna _)
          | _=>exact ⟨rfl,rfl⟩
        exact ⟨by rw [this.1]; exact q,by rw [this.2,hag]⟩
  split at hflat
  · rename_i k ht;obtain ⟨n,rfl⟩:=WideShapes.okWide_int ht hok;exact scal (by rw [ho.2.1,ht]) rfl (λ_ q=>by cases q)
  · rename_i ht;obtain ⟨n,rfl⟩:=WideShapes.okWide_bool ht hok;exact scal (by rw [ho.2.1,ht]) rfl (λ_ q=>by cases q)
  · rename_i ht;obtain ⟨a,len,cap,rfl⟩:=WideShapes.okWide_slice ht hok;exact scal (by rw [ho.2.1,ht]) rfl (λ_ q=>by cases q)
  · rename_i fs ht;simp only [Value.okWide,ht] at hok;obtain ⟨cs,rfl,_⟩:=hok;refine ⟨V',h',.agg cells,x,l, ?_,q,by rw [ho.2.1,ht]; rfl⟩;exact .agg' (cs':=cs.toList) (by simpa [Value.cells] using r)
  · cases hflat
end
theorem zjH.mono {T:Tab} {f:zb} {vs:List zb} {h:za} {Q Q':zhT->za->Prop} (c:zjH T f vs h Q) (hq:∀ r h',Q r h'->Q' r h'):zjH T f vs h Q':=
 let ⟨n,r,h',a,b⟩:=c; ⟨n,r,h',a,hq _ _ b⟩
theorem zk9.mono {T:Tab} {f:FuncId} {vs:List zb} {h:za} {Q Q':zhT->za->Prop} (c:zk9 T f vs h Q) (hq:∀ r h',Q r h'->Q' r h'):zk9 T f vs h Q':=
 let ⟨n,r,h',a,b⟩:=c; ⟨n,r,h',a,hq _ _ b⟩
def zhd:Op->Bool
 | .store _ _ _ | .mapUpdate _ _ _ _ | .insert _ _ _ _ | .mapEntry _ _ _ | .entryStore _ _ _ _=>Oc
 | .call c=>(match c.callee with | .builtin .append | .builtin .copy=>Oc | _=>Od)
 | _=>Od
theorem zoZ {a b:Foot} (ha:a.wr=[]) (ha':a.wall=Oc) (hb:b.wr=[]) (hb':b.wall=Oc):a.apart b=Od:=by
 have e:∀ l,disj l []=Od:=by intro l; simp [disj]
 have e2:∀ l,disj [] l=Od:=by intro l; rfl
 unfold Foot.apart;rw [ha,ha',hb,hb'];simp [e,e2]
theorem zjw {ev:Operand->zb} {o:Oper} (h:zhd o.op=Od):(foot ev o).wr=[]/\(foot ev o).wall=Oc:=by
 unfold foot;cases ho:o.op<;>rw [ho] at h<;>simp only [zhd] at h<;>(try (cases h; done))<;>(try exact ⟨rfl,rfl⟩);rename_i c;cases hc:c.callee with
 | value f=>simp only [hc]; simp
 | invoke r m=>simp only [hc]; simp
 | builtin b=>rw [hc] at h; cases b<;>simp at h<;>simp [hc]
theorem zmm {ops:List Oper} {i:Nat} {f:Foot} {done:List (Nat×Foot)} (hd:∀ p∈done,p.2.wr=[]/\p.2.wall=Oc) (hf:f.wr=[]) (hf':f.wall=Oc):zcL ops i f done=Od:=by
 unfold zcL;rw [if_pos (List.all_eq_true.2 λp hp=>zoZ (hd p hp).1 (hd p hp).2 hf hf')]
theorem zmn {T:Tab} {g:FuncId} {F:Func} {c:Code} {vs:List zb} {h:za} {Q:zhT->za->Prop} (hF:T.funcs.get g=Ob F) (hb:F.body=Ob c) (hn:Nat.blt F.ntmps vs.length=Oc)
 (r:Run T c (zbk 0 vs .leaf) h λe fr h'=>(e=.normal\/e=.ret)/\∃ us,aresults T F.results.toList fr h'=Ob us/\Q (.ret (packed us)) h'):zk9 T g vs h Q:=by
 obtain ⟨n,e,fr,h',h1,h2,us,h3,h4⟩:=r;refine ⟨n,_,h', ?_,h4⟩;unfold zeL;rcases h2 with rfl | rfl<;>simp only [hF,hn,cond_false,hb,h1,h3]
theorem zdh {T:Tab} {g:FuncId} {a b vs:List zb} {h:za} {Q:zhT->za->Prop} (hc:T.consts.get g=Oe) (c:zk9 T g (a++vs++b) h Q):zjH T (.func (.func g) a b) vs h Q:=by
 obtain ⟨n,r,h',h1,h2⟩:=c;refine ⟨n,r,h', ?_,h2⟩;simp only [acall,hc];exact h1
theorem zko {T:Tab} {g:FuncId} {p:List zb->Option zb} {v:zb} {a b vs:List zb} {h:za} {Q:zhT->za->Prop} (hc:T.consts.get g=Ob p) (hv:p (a++vs++b)=Ob v) (q:Q (.ret v) h):zjH T (.func (.func g) a b) vs h Q:=
 ⟨0,_,h,by simp only [acall,hc,hv]; rfl,q⟩
theorem zwm (fr:zg) (t:Nat):fr.op (.tmp t)=fr.ev t:=rfl
theorem zbl (fr:zg) (d:Nat) (v:zb):putDst fr (Ob d) v=Tr.set fr d v:=rfl
theorem zuG (fr:zg) (v:zb):putDst fr Oe v=fr:=rfl
theorem zuH {h:za} (hwm:h.wm<=h.next):lay (lay h h.next) (min h.wm (lay h h.next).wm)=h:=by
 show ({ h with wm:=min h.wm h.next }:za)=h;rw [Nat.min_eq_left hwm]
end Go.Ai
namespace Go.Ai.Sx
def _root_.Go.Ai.Store.Sub (z:Store) (h:za):Prop:=∀ b x,z b=Ob x->h.get b=Ob x/\b<h.next
def zq1 {A:Type} (R:Rep A) (z:Store) (a:zb) (x:A):Prop:=
 ∃ b off cells ro,a=.ptr b off/\z b=Ob (.arr cells ro)/\off+R.sz<=cells.length/\R.rel z ((cells.drop off).take R.sz) x
def zaO {A:Type} (R:Rep A):Rep A:=
 ⟨1,Oc,λz cs x=>∃ a,cs=[a]/\zq1 R z a x,λ_ _ _ h=>by obtain ⟨v,h,_⟩:=h; rw [h]; rfl,
  λ_ _ _ _ e h=>let ⟨a,h1,b,off,cells,ro,h2,h3,h4,h5⟩:=h; ⟨a,h1,b,off,cells,ro,h2,e _ _ h3,h4,R.mono _ _ _ _ e h5⟩,
  λ_=>rfl,λ_ _ _ h=>by obtain ⟨v,h,_,_,_,_,r,_⟩:=h; rw [h,r]; rfl⟩
inductive TE:Type 1 where
 | val {A:Type} (R:Rep A) (x:A)
 | raw (v:zb)
 | elt (v:zb) (i off:Nat)
 | tup (es:List TE)
mutual
def TE.ok (z:Store):TE->zb->Prop
 | .val R x,a=>TV R z a x
 | .raw v,a=>a=v
 | .elt v i off,a=>∃ b o len es cap,v=.slice b o len es cap/\a=.ptr b (o+i*es+off)
 | .tup es,a=>∃ vs,a=.tuple vs/\zG z es vs
def zG (z:Store):List TE->List zb->Prop
 | [],vs=>vs=[]
 | e::es,vs=>∃ v vs',vs=v::vs'/\e.ok z v/\zG z es vs'
end
mutual
theorem TE.ok_mono {z z':Store} (hz:z.le z'):∀ {e:TE} {a:zb},e.ok z a->e.ok z' a
 | .val _ _,_,h=>TV.mono hz h
 | .raw _,_,h=>h
 | .elt ..,_,h=>h
 | .tup es,_,h=>by
  simp only [TE.ok] at h ⊢;obtain ⟨vs,h1,h2⟩:=h;exact ⟨vs,h1,zeN hz h2⟩
theorem zeN {z z':Store} (hz:z.le z'):∀ {es:List TE} {vs:List zb},zG z es vs->zG z' es vs
 | [],_,h=>by simp only [zG] at h ⊢; exact h
 | e::es,_,h=>by
  simp only [zG] at h ⊢;obtain ⟨v,vs',h1,h2,h3⟩:=h;exact ⟨v,vs',h1,TE.ok_mono hz h2,zeN hz h3⟩
end
abbrev Env:=List (Nat×TE)
def look:Env->Nat->Option TE
 | [],_=>Oe
 | (a,e)::M,t=>bif Nat.beq a t then Ob e else look M t
def ziM (z:Store) (M:Env) (fr:zg):Prop:=∀ t e,look M t=Ob e->e.ok z (fr.ev t)
theorem ziM.mono {z z':Store} {M:Env} {fr:zg} (hz:z.le z') (h:ziM z M fr):ziM z' M fr:=λt e q=>TE.ok_mono hz (h t e q)
theorem ziM.set {z:Store} {M:Env} {fr:zg} {d:Nat} {e:TE} {v:zb} (h:ziM z M fr) (q:e.ok z v):ziM z ((d,e)::M) (Tr.set fr d v):=by
 intro t e' hl;rw [zg.ev_set];simp only [look] at hl;by_cases hd:d=t
 . subst hd; simp at hl; subst hl; rw [if_pos rfl]; exact q
 . have:Nat.beq d t=Oc:=by rw [Bool.eq_false_iff]; intro q; exact hd (Nat.eq_of_beq_eq_true q)
   rw [this] at hl;rw [if_neg (Ne.symm hd)];exact h t e' hl
def Sublist (M M':Env):Prop:=∀ t e,look M t=Ob e->look M' t=Ob e
def zmo (M':Env):Env->Prop
 | []=>True
 | p::M=>look M' p.1=Ob p.2/\zmo M' M
theorem zmo.sub {M':Env}:∀ {M:Env},zmo M' M->Sublist M M'
 | [],_,_,_,h=>by cases h
 | p::M,ha,t,e,h=>by
  simp only [look] at h;cases hb:Nat.beq p.1 t with
  | true=>
   rw [hb] at h;have:=Nat.eq_of_beq_eq_true hb;subst this;cases h;exact ha.1
  | false=>rw [hb] at h; exact ha.2.sub t e h
inductive Obj:Type 1 where
 | row {A:Type} (R:Rep A) (xs:List A)
 | box (es:List TE)
 | mp {A B:Type} (Q:Rep A) (R:Rep B) (es:List (A×B))
 | cb (bs:List Nat) (ok:Store->za->Prop)
def Stab (bs:List Nat) (ok:Store->za->Prop):Prop:=∀ z z' h h',z.le z'->(∀ b∈bs,h'.get b=h.get b)->ok z h->ok z' h'
def Obj.ok (z:Store) (h:za):Obj->zb->Prop
 | .row R xs,v=>xs.length<=maxLen/\((v=.nsz/\xs=[])\/∃ b off cap cells,v=.slice b off xs.length R.sz cap/\h.get b=Ob (.arr cells Oc)/\off+xs.length*R.sz<=cells.length /\
  (∀ c,cap=Ob c->xs.length<=c/\off+c*R.sz<=cells.length)/\∀ i x,xs[i]?=Ob x->R.rel z ((cells.drop (off+i*R.sz)).take R.sz) x)
 | .box es,v=>∃ b cells,v=.ptr b 0/\h.get b=Ob (.arr cells Oc)/\zG z es cells/\cells.all zb.one=Od
 | .mp Q R es,v=>∃ b l,v=.map b/\h.get b=Ob (.mp l)/\l.length=es.length/\∀ (i:Nat) (p:zb×zb) (q:_×_),l[i]?=Ob p->es[i]?=Ob q->TV Q z p.1 q.1/\TV R z p.2 q.2
 | .cb bs ok,_=>ok z h/\Stab bs ok
def zhy:zb->Option Nat
 | .slice b _ _ _ _=>Ob b
 | .ptr b _=>Ob b
 | .map b=>Ob b
 | _=>Oe
def zfl (p:zb×Obj):List Nat:=match p.2 with
 | .cb bs _=>bs
 | _=>(zhy p.1).toList
def zsc:Obj->Bool
 | .cb _ _=>Oc
 | _=>Od
theorem zlG {v:zb} {o:Obj} (h:zsc o=Od):zfl (v,o)=(zhy v).toList:=by cases o<;>first | rfl | cases h
theorem Obj.ok_mono {z z':Store} {h h':za} {o:Obj} {v:zb} (hz:z.le z') (hs:∀ b,b∈zfl (v,o)->h'.get b=h.get b) (q:o.ok z h v):o.ok z' h' v:=by
 cases o with
 | row R xs=>
  obtain ⟨q0,q⟩:=q;refine ⟨q0, ?_⟩;rcases q with q | ⟨b,off,cap,cells,rfl,q2,q3,q4,q5⟩
  . exact .inl q
  . exact .inr ⟨b,off,cap,cells,rfl,by rw [hs b (by simp [zfl,zhy])]; exact q2,q3,q4,λi x hx=>R.mono _ _ _ _ hz (q5 i x hx)⟩
 | box es=>
  obtain ⟨b,cells,rfl,q2,q3,q4⟩:=q;exact ⟨b,cells,rfl,by rw [hs b (by simp [zfl,zhy])]; exact q2,zeN hz q3,q4⟩
 | mp Q R es=>
  obtain ⟨b,l,rfl,q2,q3,q4⟩:=q;exact ⟨b,l,rfl,by rw [hs b (by simp [zfl,zhy])]; exact q2,q3,λi p q hp hq=>⟨(q4 i p q hp hq).1.mono hz,(q4 i p q hp hq).2.mono hz⟩⟩
 | cb bs ok=>exact ⟨q.2 z z' h h' hz hs q.1,q.2⟩
abbrev Own:=List (zb×Obj)
def blks (L:Own):List Nat:=L.flatMap zfl
theorem zP (p:zb×Obj) (L:Own):blks (p::L)=zfl p++blks L:=by simp [blks]
theorem zbF {L:Own} {b:Nat}:b∈blks L↔∃ p∈L,b∈zfl p:=by simp [blks,List.mem_flatMap]
structure Ctx where
 z0:Store
 h0:za
 B0:List Nat
structure zg4 (C:Ctx) (z:Store) (h:za) (L:Own):Prop where
 ok:∀ p∈L,p.2.ok z h p.1
 out:∀ p∈L,∀ b,b∈zfl p->z b=Oe/\b<h.next/\(C.h0.next<=b\/b∈C.B0)
 nodup:(blks L).Nodup
structure Chg (C:Ctx) (h:za):Prop where
 next:C.h0.next<=h.next
 same:∀ b,b<C.h0.next->b∉C.B0->h.get b=C.h0.get b
 wm:∀ m,m<=C.h0.wm->m<=C.h0.next->(∀ b∈C.B0,m<=b)->m<=h.wm
 ok:h.wm<=h.next
structure StZ (C:Ctx) (M:Env) (L:Own) (z:Store) (fr:zg) (h:za):Prop where
 zle:C.z0.le z
 sub:z.Sub h
 old:∀ b,b<C.h0.next->b∉C.B0->z b=C.z0 b
 fr:ziM z M fr
 own:zg4 C z h L
 chg:Chg C h
def St (C:Ctx) (M:Env) (L:Own) (fr:zg) (h:za):Prop:=∃ z,StZ C M L z fr h
theorem StZ.low {C:Ctx} {M:Env} {L:Own} {z:Store} {fr:zg} {h:za} (s:StZ C M L z fr h) {x:Nat} (h1:x<=h.next) (h2:∀ m,m<=C.h0.wm->m<=C.h0.next->(∀ b∈C.B0,m<=b)->m<=x):StZ C M L z fr (lay h x):=
 ⟨s.zle,s.sub,s.old,s.fr,⟨λp hp=>Obj.ok_mono (h:=h) (h':=Go.Ai.lay h x) (.refl _) (λ_ _=>rfl) (s.own.ok p hp),s.own.out,s.own.nodup⟩,⟨s.chg.next,s.chg.same,h2,h1⟩⟩
theorem StZ.set {C:Ctx} {M:Env} {L:Own} {z:Store} {fr:zg} {h:za} (s:StZ C M L z fr h) {d:Nat} {e:TE} {v:zb} (q:e.ok z v):StZ C ((d,e)::M) L z (Tr.set fr d v) h:=
 { s with fr:=s.fr.set q }
def picks (L:Own):List Nat->Own
 | []=>[]
 | i::is=>match L[i]? with
  | some p=>p::picks L is
  | none=>picks L is
theorem zdS {L:Own}:∀ {is:List Nat} {p:zb×Obj},p∈picks L is->∃ i∈is,L[i]?=Ob p
 | [],_,h=>by cases h
 | i::is,p,h=>by
  simp only [picks] at h;cases hi:L[i]? with
  | none=>rw [hi] at h; obtain ⟨j,h1,h2⟩:=zdS h; exact ⟨j,List.mem_cons_of_mem _ h1,h2⟩
  | some q=>
   rw [hi] at h;rcases List.mem_cons.1 h with rfl | h
   ·exact ⟨i,List.mem_cons_self ..,hi⟩
   ·obtain ⟨j,h1,h2⟩:=zdS h; exact ⟨j,List.mem_cons_of_mem _ h1,h2⟩
theorem zdE {L:Own} (hn:(blks L).Nodup):∀ {i j:Nat} {p q:zb×Obj} {b:Nat},L[i]?=Ob p->L[j]?=Ob q->b∈zfl p->b∈zfl q->i=j:=by
 induction L with
 | nil=>intro i j p q b h; simp at h
 | cons a L ih=>
  intro i j p q b hi hj hp hq;rw [zP] at hn;have hn':(blks L).Nodup:=(List.nodup_append.1 hn).2.1;have key:∀ {k:Nat} {p:zb×Obj},L[k]?=Ob p->b∈zfl p->b∈zfl a->False:=by
   intro k p hk hp ha;exact (List.nodup_append.1 hn).2.2 b ha b (zbF.2 ⟨p,List.mem_of_getElem? hk,hp⟩) rfl
  cases i with
  | zero=>
   simp at hi; subst hi;cases j with
   | zero=>rfl
   | succ j=>exact (key (by simpa using hj) hq hp).elim
  | succ i=>
   cases j with
   | zero=>simp at hj; subst hj; exact (key (by simpa using hi) hp hq).elim
   | succ j=>exact congrArg (·+1) (ih (i:=i) (j:=j) hn' (by simpa using hi) (by simpa using hj) hp hq)
theorem zza {L:Own} (hn:(blks L).Nodup) {p:zb×Obj} (hp:p∈L):(zfl p).Nodup:=by
 induction L with
 | nil=>cases hp
 | cons a L ih=>
  rw [zP] at hn;rcases List.mem_cons.1 hp with rfl | hp
  . exact (List.nodup_append.1 hn).1
  . exact ih (List.nodup_append.1 hn).2.1 hp
theorem zcM {L:Own} (hn:(blks L).Nodup):∀ {is:List Nat},is.Nodup->(blks (picks L is)).Nodup
 | [],_=>by simp [picks,blks]
 | i::is,h=>by
  simp only [picks];have ih:=zcM hn (List.nodup_cons.1 h).2;cases hi:L[i]? with
  | none=>exact ih
  | some p=>
   show (blks (p::picks L is)).Nodup;rw [zP];refine List.nodup_append.2 ⟨zza hn (List.mem_of_getElem? hi),ih,λb hb c hc e=>?_⟩;subst e;obtain ⟨q,hq1,hq2⟩:=zbF.1 hc;obtain ⟨j,hj1,hj2⟩:=zdS hq1;have:=zdE hn hi hj2 hb hq2;subst this;exact (List.nodup_cons.1 h).1 hj1
theorem St.pick {C:Ctx} {M M':Env} {L L':Own} {fr:zg} {h:za} (s:St C M L fr h) (is:List Nat) (q:zmo M M') (hL:picks L is=L') (hn:is.Nodup):St C M' L' fr h:=by
 subst hL;obtain ⟨z,s⟩:=s;refine ⟨z,{ s with fr:=λt e hl=>s.fr t e (q.sub t e hl),own:=⟨λp hp=>?_,λp hp=>?_,zcM s.own.nodup hn⟩ }⟩
 . obtain ⟨i,_,h2⟩:=zdS hp;exact s.own.ok p (List.mem_of_getElem? h2)
 . obtain ⟨i,_,h2⟩:=zdS hp;exact s.own.out p (List.mem_of_getElem? h2)
def wX (T:Tab) (ops:List Oper):List Oper->zg->za->(zg->za->Prop)->Prop
 | [],fr,h,Q=>Q fr h
 | o::rest,fr,h,Q=>
  match awanted ops fr o.guard with
  | some Od=>(match aop T fr.op h o.op with
   | some (.val v h')=>wX T ops rest (putDst fr o.dst v) h' Q
   | some (.call f vs)=>zjH T f vs h λr h1=>∃ v,r=.ret v/\wX T ops rest (putDst fr o.dst v) h1 Q
   | none=>False)
  | some Oc=>wX T ops rest (putDst fr o.dst unit) h Q
  | none=>False
theorem zjS {T:Tab} {ops:List Oper}:∀ {rest:List Oper} {fr:zg} {h:za} {Q:zaC->zg->za->Prop},wX T ops rest fr h (Q .normal)->Ops T ops rest fr h Q
 | [],_,_,_,w=>zw2 w
 | o::rest,fr,h,Q,w=>by
  simp only [wX] at w;split at w
  . rename_i hw;split at w
    . rename_i ha; exact zw3 hw ha (zjS w)
    . rename_i ha; exact zuD hw ha (w.mono λr h' ⟨v,e,w⟩=>⟨v,e,zjS w⟩)
    . exact w.elim
  . rename_i hw; exact zuC hw (zjS w)
  . exact w.elim
def zmp (ops:List Oper) (i:Nat):Bool:=(ops.take (i+1)).all λo=>zhd o.op
def zhz (b:List Nat):Nat->Bool
 | 0=>Od
 | n+1=>b.contains n&&zhz b n
def zgQ:Op->Bool
 | .alloc _ | .box _ _=>Od
 | _=>Oc
def notCall:Op->Bool
 | .call _=>Oc
 | _=>Od
def zpU (ops:List Oper) (t:Nat):Nat->Option Nat
 | 0=>Oe
 | j+1=>match ops[j]? with
  | some o=>bif (match o.dst with | some t'=>Nat.beq t' t | none=>Oc) then (bif zgQ o.op&&o.guard.isNone&&((ops.drop (j+1)).all λq=>match q.dst with | some t'=>!Nat.beq t' t | none=>Od) then Ob j else Oe) else zpU ops t j
  | none=>Oe
def zmq (ops:List Oper) (i:Nat):Bool:=
 match ops[i]? with
 | some o=>match o.op with
  | .store _ (.tmp t) _=>match zpU ops t i with
   | some j=>match zcA ops i with
    | b=>(List.range i).all λp=>b.contains p||(Nat.blt p j&&(match ops[p]? with | some q=>notCall q.op | none=>Oc))
   | none=>Oc
  | _=>Oc
 | none=>Oc
def zdk:Op->Bool
 | .load _ _ | .store _ _ _ | .lookup _ _ _ _ | .mapUpdate _ _ _ _ | .insert _ _ _ _ | .mapEntry _ _ _ | .entryStore _ _ _ _=>Oc
 | .call c=>(match c.callee with | .builtin .len | .builtin .append | .builtin .copy=>Oc | .builtin _=>Od | _=>Oc)
 | _=>Od
def zo0:Op->Bool
 | .call c=>(match c.callee with | .builtin .len=>Od | _=>Oc)
 | _=>Oc
def znJ:Op->Bool
 | .load _ _=>Od
 | _=>Oc
def zi3 (o:Op):Bool:=zdk o||zo0 o
def zeO (ol:List Nat) (i:Nat) (o:Op):Bool:=zdk o||((zo0 o||znJ o)&&!ol.contains i)
def zkp:Op->Bool
 | .store _ _ _ | .mapUpdate _ _ _ _ | .insert _ _ _ _ | .mapEntry _ _ _ | .entryStore _ _ _ _=>Od
 | .call c=>(match c.callee with | .builtin .append=>Od | _=>Oc)
 | _=>Oc
def zmr (ops:List Oper) (ol:List Nat) (i:Nat):Bool:=
 match ops[i]? with
 | some o=>zdk o.op||(zkp o.op&&(match zcA ops i with
  | b=>(List.range i).all λp=>b.contains p||(match ops[p]? with | some q=>zeO ol p q.op | none=>Oc)))
 | none=>Oc
def zhZ:Op->Bool
 | .call c=>(match c.callee with | .builtin .append=>Od | _=>Oc)
 | _=>Oc
def zfo (ol:List Nat):List Nat:=ol.filterMap λx=>bif Nat.ble 1000000 x&&Nat.blt x 2000000 then Ob (x-1000000) else Oe
def zcT (ol:List Nat):List Nat:=zfo ol++ol.filterMap λx=>bif Nat.ble 2000000 x then Ob (x-2000000) else Oe
def zfS (ops:List Oper) (r:Nat):Bool:=ops.all λo=>match o.dst with | some t=>!Nat.beq t r | none=>Od
def zjx (ops:List Oper) (a j:Nat):Bool:=(List.range ops.length).all λk=>Nat.beq k j||(match ops[k]? with | some o=>(match o.dst with | some t=>!Nat.beq t a | none=>Od) | none=>Od)
def zkq:Op->Option Nat
 | .fieldAddr _ (.tmp r) _=>Ob r
 | .nilCheck (.tmp r)=>Ob r
 | .move (.tmp r)=>Ob r
 | _=>Oe
def zhL (ops:List Oper):Nat->Nat->Option Nat
 | 0,_=>Oe
 | j+1,a=>match ops[j]? with
  | some o=>(match zkq o.op,o.dst with
   | some r,Ob t=>bif Nat.beq t a&&zjx ops a j then (bif zfS ops r then Ob r else zhL ops j r) else zhL ops j a
   | _,_=>zhL ops j a)
  | none=>Oe
def zlb (ops:List Oper) (i a:Nat):Option Nat:=bif zfS ops a then Ob a else zhL ops i a
def znK (ops:List Oper) (ol:List Nat) (p:Nat) (q:Oper):Option Nat:=match q.op with
 | .load _ (.tmp a)=>(match zlb ops p a with | some r=>bif (zcT ol).contains r then Ob r else Oe | none=>Oe)
 | _=>Oe
def znL (ops:List Oper) (ol:List Nat) (p:Nat) (q:Oper):Option Nat:=match q.op with
 | .store _ (.tmp a) _=>(match zlb ops p a with | some r=>bif (zfo ol).contains r then Ob r else Oe | none=>Oe)
 | _=>Oe
def othr (r:Nat):Option Nat->Bool
 | some r'=>!Nat.beq r' r
 | none=>Oc
def zpV (ops:List Oper) (ol:List Nat) (i:Nat):Bool:=
 match ops[i]? with
 | some o=>match zcA ops i with
  | b=>((match znK ops ol i o with | some r=>(List.range i).all λp=>b.contains p||(match ops[p]? with | some q=>(zhd q.op||zhZ q.op)||othr r (znL ops ol p q) | none=>Oc) | none=>Oc) ||
   (zhZ o.op&&(List.range i).all λp=>b.contains p||(match ops[p]? with | some q=>zeO ol p q.op||(znK ops ol p q).isSome | none=>Oc))) ||
   (match znL ops ol i o with | some r=>(List.range i).all λp=>b.contains p||(match ops[p]? with | some q=>zeO ol p q.op||(othr r (znK ops ol p q)||othr r (znL ops ol p q)) | none=>Oc) | none=>Oc)
 | none=>Oc
def znM (ops:List Oper) (ol:List Nat):Nat->Bool
 | 0=>Od
 | n+1=>(zmp ops n||zhz (zcA ops n) n||zmq ops n||zmr ops ol n||zpV ops ol n)&&znM ops ol n
theorem zjy {b:List Nat}:∀ {n:Nat},zhz b n=Od->∀ j,j<n->b.contains j=Od
 | 0,_,j,hj=>by omega
 | n+1,h,j,hj=>by
  simp only [zhz,Bool.and_eq_true] at h;by_cases e:j=n
  . subst e; exact h.1
  . exact zjy h.2 j J
theorem zhe {ops:List Oper} {ol:List Nat}:∀ {n:Nat},znM ops ol n=Od->∀ i,i<n->zmp ops i=Od\/zhz (zcA ops i) i=Od\/zmq ops i=Od\/zmr ops ol i=Od\/zpV ops ol i=Od
 | 0,_,i,hi=>by omega
 | n+1,h,i,hi=>by
  simp only [znM,Bool.and_eq_true,Bool.or_eq_true] at h;by_cases e:i=n
  . subst e;rcases h.1 with (((q | q) | q) | q) | q
    . exact .inl q
    . exact .inr (.inl q)
    . exact .inr (.inr (.inl q))
    . exact .inr (.inr (.inr (.inl q)))
    . exact .inr (.inr (.inr (.inr q)))
  . exact zhe h.2 i J
theorem zlH {ops:List Oper} {t:Nat}:∀ {i j:Nat},zpU ops t i=Ob j->j<i/\∃ o,ops[j]?=Ob o/\o.dst=Ob t/\zgQ o.op=Od/\o.guard=Oe/\∀ k q,j<k->ops[k]?=Ob q->q.dst≠Ob t
 | 0,_,h=>by cases h
 | i+1,j,h=>by
  simp only [zpU] at h;split at h
  ·rename_i o ho;cases hb:(match o.dst with | some t'=>Nat.beq t' t | none=>Oc) with
   | true=>
    rw [hb] at h;simp only [cond_true] at h;have hd:o.dst=Ob t:=by
     split at hb
     ·rename_i t' e; rw [e,Nat.eq_of_beq_eq_true hb]
     ·cases hb
    cases hc:(zgQ o.op&&o.guard.isNone&&((ops.drop (i+1)).all λq=>match q.dst with | some t'=>!Nat.beq t' t | none=>Od)) with
    | false=>rw [hc] at h; cases h
    | true=>
     rw [hc] at h;cases h;simp only [Bool.and_eq_true] at hc;refine ⟨Nat.lt_succ_self _,o,ho,hd,hc.1.1,by simpa using hc.1.2,λk q hk hq e=>?_⟩;have:=List.all_eq_true.1 hc.2 q (List.mem_of_getElem? (i:=k-(i+1)) (by rw [List.getElem?_drop]; rw [show i+1+(k-(i+1))=k by omega]; exact hq));rw [e] at this;simp at this
   | false=>
    rw [hb] at h;obtain ⟨h1,h2⟩:=zlH (i:=i) h;exact ⟨Nat.lt_succ_of_lt h1,h2⟩
  ·cases h
def zpW (ops:List Oper) (ol:List Nat) (i:Nat) (fr:zg) (done:List (Nat×Foot)):Prop:=
 (∀ j o r a,j<i->ops[j]?=Ob o->zkq o.op=Ob r->o.dst=Ob a->(zfS ops r=Od\/∃ k,k<j/\zjx ops r k=Od)->zjx ops a j=Od->∀ x∈zN (fr.ev a),x∈zN (fr.ev r)) /\
 (∀ r∈zcT ol,zfS ops r=Od->∀ p∈done,∀ o,ops[p.1]?=Ob o->zhZ o.op=Od->∀ x∈zN (fr.ev r),x∉p.2.wr) /\
 (∀ p∈done,∀ o t a,ops[p.1]?=Ob o->o.op=.load t (.tmp a)->∀ r,zlb ops p.1 a=Ob r->∀ x∈p.2.rd,x∈zN (fr.ev r)) /\
 (∀ p∈done,∀ o t a y,ops[p.1]?=Ob o->o.op=.store t (.tmp a) y->p.2.rd=[]/\∀ r,zlb ops p.1 a=Ob r->∀ x∈p.2.wr,x∈zN (fr.ev r)) /\
 ∀ r∈zfo ol,∀ r'∈zcT ol,r≠r'->zfS ops r=Od->zfS ops r'=Od->∀ x∈zN (fr.ev r),x∉zN (fr.ev r')
def zlI (ops:List Oper) (ol:List Nat) (z:Store) (i:Nat) (fr:zg) (h:za) (done:List (Nat×Foot)):Prop:=
 (∀ p∈done,p.1<i/\p.2.wall=Oc/\(∀ o,ops[p.1]?=Ob o->zhd o.op=Od->p.2.wr=[])/\(∀ o,ops[p.1]?=Ob o->notCall o.op=Od->p.2.rall=Oc)/\(∀ b,b∈p.2.rd\/b∈p.2.wr->b<h.next) /\
  ∀ o,ops[p.1]?=Ob o->zeO ol p.1 o.op=Od->p.2.wr=[]/\p.2.rall=Oc/\(∀ b,b∈p.2.rd->z b≠Oe)/\(zi3 o.op=Od->p.2.rd=[])) /\
 (∀ j o t,j<i->ops[j]?=Ob o->zgQ o.op=Od->o.guard=Oe->o.dst=Ob t->(∀ k q,j<k->ops[k]?=Ob q->q.dst≠Ob t)->∃ b,fr.ev t=.ptr b 0/\∀ p∈done,p.1<j->∀ c,c∈p.2.rd\/c∈p.2.wr->c<b)/\zpW ops ol i fr done
structure zjz (z:Store) (h:za) (f:Foot):Prop where
 rd:∀ b,b∈f.rd->b<h.next
 wr:∀ b,b∈f.wr->b<h.next/\z b=Oe
theorem zeP {ops:List Oper} {r:Nat} (h:zfS ops r=Od) {i:Nat} {o:Oper} (hi:ops[i]?=Ob o):o.dst≠Ob r:=by
 intro e;have:=List.all_eq_true.1 h o (List.mem_of_getElem? hi);rw [e] at this;simp at this
theorem zlJ {ops:List Oper} {a j:Nat} (h:zjx ops a j=Od) {k:Nat} {o:Oper} (hk:ops[k]?=Ob o) (hne:k≠j):o.dst≠Ob a:=by
 intro e;have:=List.all_eq_true.1 h k (List.mem_range.2 (List.getElem?_eq_some_iff.1 hk).1);rw [hk] at this;simp [hne,e] at this
theorem zhA {ops:List Oper} {r:Nat}:∀ {i a:Nat},zhL ops i a=Ob r->zfS ops r=Od/\∃ j o r',j<i/\ops[j]?=Ob o/\zkq o.op=Ob r'/\o.dst=Ob a/\zjx ops a j=Od/\(zfS ops r'=Od/\r'=r\/zhL ops j r'=Ob r)
 | 0,_,h=>by cases h
 | i+1,a,h=>by
  have up:zhL ops i a=Ob r->zfS ops r=Od/\∃ j o r',j<i+1/\ops[j]?=Ob o/\zkq o.op=Ob r'/\o.dst=Ob a/\zjx ops a j=Od/\(zfS ops r'=Od/\r'=r\/zhL ops j r'=Ob r):=λq=>by
   obtain ⟨h0,j,o,r',h1,h2⟩:=zhA (i:=i) q;exact ⟨h0,j,o,r',by omega,h2⟩
  simp only [zhL] at h;split at h
  ·rename_i o ho;split at h
   ·rename_i r' t e1 e2;cases hb:(Nat.beq t a&&zjx ops a i) with
    | true=>
     rw [hb,cond_true] at h;rw [Bool.and_eq_true] at hb;have hd:o.dst=Ob a:=by rw [e2,Nat.eq_of_beq_eq_true hb.1]
     cases hf:zfS ops r' with
     | true=>
      rw [hf] at h;cases h;exact ⟨hf,i,o,_,Nat.lt_succ_self _,ho,e1,hd,hb.2,.inl ⟨hf,rfl⟩⟩
     | false=>
      rw [hf] at h;exact ⟨(zhA (i:=i) h).1,i,o,r',Nat.lt_succ_self _,ho,e1,hd,hb.2,.inr h⟩
    | false=>rw [hb] at h; exact up h
   ·exact up h
  ·cases h
theorem zcN {ops:List Oper} {i a r:Nat} (h:zlb ops i a=Ob r):zfS ops r=Od:=by
 unfold zlb at h;cases hf:zfS ops a with
 | true=>rw [hf] at h; cases h; exact hf
 | false=>
  rw [hf] at h;exact (zhA h).1
theorem zq2 {ops:List Oper} {ol:List Nat} {i:Nat} {fr:zg} {done:List (Nat×Foot)} (h:zpW ops ol i fr done) {r:Nat}:∀ {j a:Nat},j<=i->zhL ops j a=Ob r->(∀ x∈zN (fr.ev a),x∈zN (fr.ev r))/\∃ k,k<j/\zjx ops a k=Od:=by
 intro j;induction j using Nat.strongRecOn with
 | _ j ih=>
  intro a hj hr;obtain ⟨_,k,o,r',h1,h2,h3,h4,h5,h6⟩:=zhA hr;refine ⟨?_,k,h1,h5⟩;rcases h6 with ⟨h7,rfl⟩ | h6
  . exact h.1 k o r' a J h2 h3 h4 (.inl h7) h5
  . obtain ⟨g1,k',g2,g3⟩:=ih k h1 J h6;exact λx hx=>g1 x (h.1 k o r' a J h2 h3 h4 (.inr ⟨k',g2,g3⟩) h5 x hx)
theorem zpW.at {ops:List Oper} {ol:List Nat} {i:Nat} {fr:zg} {done:List (Nat×Foot)} (h:zpW ops ol i fr done) {a r j:Nat} (hj:j<=i) (hr:zlb ops j a=Ob r):∀ x∈zN (fr.ev a),x∈zN (fr.ev r):=by
 unfold zlb at hr;cases hf:zfS ops a with
 | true=>rw [hf] at hr; cases hr; exact λx hx=>hx
 | false=>
  rw [hf] at hr;exact (zq2 h hj hr).1
theorem zi4 {ops:List Oper} {ol:List Nat} {p r:Nat} {q:Oper} (h:znK ops ol p q=Ob r):∃ t a,q.op=.load t (.tmp a)/\zlb ops p a=Ob r/\r∈zcT ol:=by
 unfold znK at h;split at h
 . rename_i t a e;split at h
   . rename_i r' hr;cases hc:(zcT ol).contains r' with
     | true=>
      rw [hc] at h;cases h;exact ⟨t,a,e,hr,by simpa using hc⟩
     | false=>rw [hc] at h; cases h
   . cases h
 . cases h
theorem zi5 {ops:List Oper} {ol:List Nat} {p r:Nat} {q:Oper} (h:znL ops ol p q=Ob r):∃ t a y,q.op=.store t (.tmp a) y/\zlb ops p a=Ob r/\r∈zfo ol:=by
 unfold znL at h;split at h
 . rename_i t a y e;split at h
   . rename_i r' hr;cases hc:(zfo ol).contains r' with
     | true=>
      rw [hc] at h;cases h;exact ⟨t,a,y,e,hr,by simpa using hc⟩
     | false=>rw [hc] at h; cases h
   . cases h
 . cases h
theorem zms {r:Nat} {o:Option Nat} (h:othr r o=Od):∃ r',o=Ob r'/\r'≠r:=by
 unfold othr at h;split at h
 . rename_i r';refine ⟨r',rfl,λe=>?_⟩;rw [e] at h;simp at h
 . cases h
theorem znN {ol:List Nat} {r:Nat} (h:r∈zfo ol):r∈zcT ol:=List.mem_append_left _ h
theorem zgb {ops:List Oper} {i:Nat} {f:Foot} {done:List (Nat×Foot)} {o:Oper} {ol:List Nat} {z:Store} {fr:zg} {h:za} (hi:ops[i]?=Ob o) (hd:zlI ops ol z i fr h done) (hok:zmp ops i=Od\/zhz (zcA ops i) i=Od\/zmq ops i=Od\/zmr ops ol i=Od\/zpV ops ol i=Od) (hf:f.wall=Oc) (hfo:zjz z h f) (hnf:zdk o.op=Od->f=⟨[],Oc,[],Oc⟩) (how:zkp o.op=Od->f.rall=Oc) (hf':zhd o.op=Od->f.wr=[])
 (hst:∀ t et y,o.op=.store et (.tmp t) y->f=⟨[],Oc,zN (fr.ev t),Oc⟩) (hld:∀ t a,o.op=.load t (.tmp a)->f=⟨zN (fr.ev a),Oc,[],Oc⟩) (hap:zhZ o.op=Od->∀ r∈zcT ol,∀ x∈zN (fr.ev r),x∉f.wr):zcL ops i f done=Od:=by
 rcases hok with hq | hc | hs | hs | hs
 . unfold zmp at hq;rw [List.all_eq_true] at hq;have at':∀ j o',j<=i->ops[j]?=Ob o'->zhd o'.op=Od:=by
    intro j o' hj ho;refine hq o' (List.mem_of_getElem? (i:=j) ?_);rw [List.getElem?_take,if_pos J]; exact ho
   refine zmm (λp hp=>?_) (hf' (at' i o (Nat.le_refl _) hi)) hf;obtain ⟨h1,h2,h3,_⟩:=hd.1 p hp;have hlt:p.1<ops.length:=Nat.lt_trans h1 (List.getElem?_eq_some_iff.1 hi).1;exact ⟨h3 _ (List.getElem?_eq_getElem hlt) (at' p.1 _ J (List.getElem?_eq_getElem hlt)),h2⟩
 . unfold zcL;by_cases h:(done.all λp=>p.2.apart f)=Od
   . rw [if_pos h]
   . rw [if_neg h];refine List.all_eq_true.2 λp hp=>?_;rw [Bool.or_eq_true];exact .inr (zjy hc _ (hd.1 p hp).1)
 . unfold zcL;by_cases h:(done.all λp=>p.2.apart f)=Od
   . rw [if_pos h]
   . rw [if_neg h];refine List.all_eq_true.2 λp hp=>?_;rw [Bool.or_eq_true];unfold zmq at hs;rw [hi] at hs;simp only at hs;split at hs
     . rename_i et t y hop;split at hs
       . rename_i j hj;obtain ⟨hji,oj,hj1,hj2,hj3,hj4,hj5⟩:=zlH hj;obtain ⟨g1,g2,g3,g4,g5,g6⟩:=hd.1 p hp;have:=List.all_eq_true.1 hs p.1 (List.mem_range.2 g1);rw [Bool.or_eq_true] at this;rcases this with q | q
         . exact .inr q
         . left;rw [Bool.and_eq_true] at q;have hpj:p.1<j:=by
            have:=q.1;simp only [Nat.blt_eq] at this;exact this
           have hlt:p.1<ops.length:=Nat.lt_trans g1 (List.getElem?_eq_some_iff.1 hi).1;have hr:=g4 _ (List.getElem?_eq_getElem hlt) (by have:=q.2; rw [List.getElem?_eq_getElem hlt] at this; exact this);obtain ⟨b,hb1,hb2⟩:=hd.2.1 j oj t hji hj1 hj3 hj4 hj2 hj5;have hfe:=hst t et y hop;rw [hb1] at hfe;subst hfe;have n1:∀ l:List Nat,(∀ c,c∈l->c<b)->disj l (zN (.ptr b 0))=Od:=by
            intro l hl;unfold disj;refine List.all_eq_true.2 λc hc=>?_;have:=hl c hc;simp [zN]; omega
           have d0:∀ l:List Nat,disj l []=Od:=λl=>by simp [disj]
           unfold Foot.apart;rw [n1 _ (λc hc=>hb2 p hp hpj c (.inr hc)),n1 _ (λc hc=>hb2 p hp hpj c (.inl hc)),g2,hr];simp [d0]
       . cases hs
     . cases hs
 . unfold zcL;by_cases h:(done.all λp=>p.2.apart f)=Od
   . rw [if_pos h]
   . rw [if_neg h];refine List.all_eq_true.2 λp hp=>?_;rw [Bool.or_eq_true];obtain ⟨g1,g2,g3,g4,g5,g6⟩:=hd.1 p hp;have hlt:p.1<ops.length:=Nat.lt_trans g1 (List.getElem?_eq_some_iff.1 hi).1;have d0:∀ l:List Nat,disj l []=Od:=λl=>by simp [disj]
     have d1:∀ l:List Nat,disj [] l=Od:=λl=>rfl;unfold zmr at hs;rw [hi] at hs;simp only [Bool.or_eq_true,Bool.and_eq_true] at hs;rcases hs with q | ⟨q1,q2⟩
     . left;rw [hnf q];unfold Foot.apart;simp [d0,g2]
     . have:=List.all_eq_true.1 q2 p.1 (List.mem_range.2 g1);rw [Bool.or_eq_true] at this;rcases this with q | q
       . exact .inr q
       . left;rw [List.getElem?_eq_getElem hlt] at q;obtain ⟨k1,k2,k3,_⟩:=g6 _ (List.getElem?_eq_getElem hlt) q;have e:disj p.2.rd f.wr=Od:=by
          unfold disj;refine List.all_eq_true.2 λc hc=>?_;have:=k3 c hc;simp only [Bool.not_eq_true',List.contains_eq_mem,decide_eq_false_iff_not];intro hm;exact this (hfo.wr c hm).2
         unfold Foot.apart;rw [k1,k2,g2,hf,how q1,e];simp [d1]
 . unfold zcL;by_cases h:(done.all λp=>p.2.apart f)=Od
   . rw [if_pos h]
   . rw [if_neg h];refine List.all_eq_true.2 λp hp=>?_;rw [Bool.or_eq_true];obtain ⟨g1,g2,g3,g4,g5,g6⟩:=hd.1 p hp;have hlt:p.1<ops.length:=Nat.lt_trans g1 (List.getElem?_eq_some_iff.1 hi).1;have hpe:=List.getElem?_eq_getElem hlt;have d0:∀ l:List Nat,disj l []=Od:=λl=>by simp [disj]
     have d1:∀ l:List Nat,disj [] l=Od:=λl=>rfl;have dj:∀ a b:List Nat,(∀ x∈a,x∉b)->disj a b=Od:=λa b q=>by
      unfold disj;exact List.all_eq_true.2 λx hx=>by simpa using q x hx
     unfold zpV at hs;rw [hi] at hs;simp only [Bool.or_eq_true,Bool.and_eq_true] at hs;have hdist:=hd.2.2.2.2.2.2;rcases hs with (hs | ⟨q1,q2⟩) | hs
     . split at hs
       case h_2=>cases hs
       rename_i r hr;have:=List.all_eq_true.1 hs p.1 (List.mem_range.2 g1);rw [Bool.or_eq_true] at this;rcases this with q | q
       . exact .inr q
       . left;rw [hpe] at q;obtain ⟨t,a,e1,e2,e3⟩:=zi4 hr;have hfe:=hld t a e1;have hsub:=hd.2.2.at (Nat.le_refl _) e2;have hwr:disj p.2.wr f.rd=Od:=by
          simp only [Bool.or_eq_true] at q;rcases q with (q | q) | q
          . rw [g3 _ hpe q]; exact d1 _
          . refine dj _ _ λx hx hxr=>?_;rw [hfe] at hxr;exact hd.2.2.2.1 r e3 (zcN e2) p hp _ hpe q x (hsub x hxr) hx
          . obtain ⟨r',k1,k2⟩:=zms q;obtain ⟨t',a',y',c1,c2,c3⟩:=zi5 k1;refine dj _ _ λx hx hxr=>?_;rw [hfe] at hxr;exact hdist r' c3 r e3 k2 (zcN c2) (zcN e2) x ((hd.2.2.2.2.2.1 p hp _ t' a' y' hpe c1).2 r' c2 x hx) (hsub x hxr)
         rw [hfe] at hwr ⊢;unfold Foot.apart;rw [hwr,g2];simp [d0]
     . have:=List.all_eq_true.1 q2 p.1 (List.mem_range.2 g1);rw [Bool.or_eq_true] at this;rcases this with q | q
       . exact .inr q
       . left;rw [hpe,Bool.or_eq_true] at q;have ⟨k1,k2,k3⟩:p.2.wr=[]/\p.2.rall=Oc/\disj p.2.rd f.wr=Od:=by
          rcases q with q | q
          . obtain ⟨k1,k2,k3,_⟩:=g6 _ hpe q;exact ⟨k1,k2,dj _ _ λc hc hm=>k3 c hc (hfo.wr c hm).2⟩
          . obtain ⟨r,hr⟩:=Option.isSome_iff_exists.1 q;obtain ⟨t,a,e1,e2,e3⟩:=zi4 hr;refine ⟨g3 _ hpe (by rw [e1]; rfl),g4 _ hpe (by rw [e1]; rfl),dj _ _ λc hc hm=>?_⟩;exact hap q1 r e3 c (hd.2.2.2.2.1 p hp _ t a hpe e1 r e2 c hc) hm
         have hfr:f.rall=Oc:=how (by
          unfold zhZ at q1;split at q1
          . rename_i c e;split at q1
            . rename_i e2; rw [e]; simp only [zkp,e2]
            . cases q1
          . cases q1)
         unfold Foot.apart;rw [k1,k2,g2,hf,hfr,k3];simp [d1]
     . split at hs
       case h_2=>cases hs
       rename_i r hr;have:=List.all_eq_true.1 hs p.1 (List.mem_range.2 g1);rw [Bool.or_eq_true] at this;rcases this with q | q
       . exact .inr q
       . left;rw [hpe] at q;obtain ⟨t,a,y,e1,e2,e3⟩:=zi5 hr;have hfe:=hst a t y e1;have hsub:=hd.2.2.at (Nat.le_refl _) e2;have ⟨k1,k2,k3⟩:disj p.2.wr f.wr=Od/\p.2.rall=Oc/\disj p.2.rd f.wr=Od:=by
          simp only [Bool.or_eq_true] at q;rcases q with q | q | q
          . obtain ⟨k1,k2,k3,_⟩:=g6 _ hpe q;exact ⟨by rw [k1]; exact d1 _,k2,dj _ _ λc hc hm=>k3 c hc (hfo.wr c hm).2⟩
          . obtain ⟨r',c0,c1⟩:=zms q;obtain ⟨t',a',c2,c3,c4⟩:=zi4 c0;refine ⟨by rw [g3 _ hpe (by rw [c2]; rfl)]; exact d1 _,g4 _ hpe (by rw [c2]; rfl),dj _ _ λc hc hm=>?_⟩;rw [hfe] at hm;exact hdist r e3 r' c4 (λe=>c1 e.symm) (zcN e2) (zcN c3) c (hsub c hm) (hd.2.2.2.2.1 p hp _ t' a' hpe c2 r' c3 c hc)
          . obtain ⟨r',c0,c1⟩:=zms q;obtain ⟨t',a',y',c2,c3,c4⟩:=zi5 c0;obtain ⟨z1,z2⟩:=hd.2.2.2.2.2.1 p hp _ t' a' y' hpe c2;refine ⟨dj _ _ λc hc hm=>?_,g4 _ hpe (by rw [c2]; rfl),by rw [z1]; exact d1 _⟩;rw [hfe] at hm;exact hdist r e3 r' (znN c4) (λe=>c1 e.symm) (zcN e2) (zcN c3) c (hsub c hm) (z2 r' c3 c hc)
         rw [hfe] at k1 k3 ⊢;unfold Foot.apart;rw [k1,k2,k3,g2];simp [d0]
theorem zsd (ev:Operand->zb) {o:Oper} {et:TypeId} {t:Nat} (ho:o.op=.load et (.tmp t)):foot ev o=⟨zN (ev (.tmp t)),Oc,[],Oc⟩:=by unfold foot; rw [ho]
theorem zse (ev:Operand->zb) {o:Oper} {et:TypeId} {t:Nat} {y:Operand} (ho:o.op=.store et (.tmp t) y):foot ev o=⟨[],Oc,zN (ev (.tmp t)),Oc⟩:=by unfold foot; rw [ho]
theorem zsf (ev:Operand->zb) {o:Oper} (h:notCall o.op=Od):(foot ev o).rall=Oc:=by
 unfold foot;cases ho:o.op<;>rw [ho] at h<;>(try rfl);cases h
theorem zsg {T:Tab} {ev:Operand->zb} {h h':za} {o:Op} {v:zb} (ha:zgQ o=Od) (hv:aop T ev h o=Ob (.val v h')):v=.ptr h.next 0/\h'.next=h.next+1:=by
 cases o<;>simp only [zgQ] at ha<;>(try (cases ha; done))
 . simp only [aop,zgg] at hv;split at hv
   . cases hv; exact ⟨rfl,rfl⟩
   . cases hv
 . simp only [aop,zj7] at hv;split at hv
   . cases hv
   . cases hv; exact ⟨rfl,rfl⟩
theorem zi6 {T:Tab} {ev:Operand->zb} {h:za} {o:Op} {f:zb} {vs:List zb} (ha:zgQ o=Od) (hv:aop T ev h o=Ob (.call f vs)):False:=by
 cases o<;>simp only [zgQ] at ha<;>(try (cases ha; done))
 . simp only [aop,zgg] at hv;split at hv<;>cases hv
 . simp only [aop,zj7] at hv;split at hv<;>cases hv
theorem ziq {fr:zg} {d:Option Nat} {v:zb} {t:Nat} (h:d≠Ob t):(putDst fr d v).ev t=fr.ev t:=by
 cases d with
 | none=>rfl
 | some d=>rw [zbl,zg.ev_set,if_neg (λe=>h (by rw [e]))]
theorem zlI.next {ops:List Oper} {ol:List Nat} {z z':Store} {i:Nat} {fr:zg} {h h':za} {done:List (Nat×Foot)} {o:Oper} {v:zb} (hd:zlI ops ol z i fr h done) (hi:ops[i]?=Ob o) (hz:z.le z') (hn:h.next<=h'.next) (new:List (Nat×Foot))
 (hnew:∀ p∈new,p.1=i/\p.2.wall=Oc/\(zhd o.op=Od->p.2.wr=[])/\(notCall o.op=Od->p.2.rall=Oc)/\(∀ b,b∈p.2.rd\/b∈p.2.wr->b<h'.next)/\(zeO ol i o.op=Od->p.2.wr=[]/\p.2.rall=Oc/\(∀ b,b∈p.2.rd->z b≠Oe)/\(zi3 o.op=Od->p.2.rd=[])))
 (hal:zgQ o.op=Od->o.guard=Oe->∀ t,o.dst=Ob t->∃ b,(putDst fr o.dst v).ev t=.ptr b 0/\h.next<=b)
 (hfa:∀ r,zkq o.op=Ob r->∀ x∈zN v,x∈zN (fr.ev r)) (hld:∀ p∈new,∀ t a,o.op=.load t (.tmp a)->∀ x∈p.2.rd,x∈zN (fr.ev a))
 (hap:∀ p∈new,zhZ o.op=Od->∀ r∈zcT ol,∀ x∈zN (fr.ev r),x∉p.2.wr) (hsw:∀ p∈new,∀ t a y,o.op=.store t (.tmp a) y->p.2.rd=[]/\∀ x∈p.2.wr,x∈zN (fr.ev a)):zlI ops ol z' (i+1) (putDst fr o.dst v) h' (new++done):=by
 have up:∀ b,z b≠Oe->z' b≠Oe:=λb hb=>by
  cases e:z b with
  | none=>exact absurd e hb
  | some x=>rw [hz b x e]; exact λq=>by cases q
 refine ⟨λp hp=>?_,λj oj t hj hoj ha hg hdst hu=>?_,λj oj r a hj hoj hop hdst hfx hon=>?_,λr hr hfx p hp oj hoj hia=>?_,λp hp oj t a hoj hop r hrl=>?_,λp hp oj t a y hoj hop=>?_,λr hr r' hr' hne hfx hfx'=>?_⟩
 case refine_3=>
  have hne:o.dst≠Ob r:=by
   rcases hfx with q | ⟨k,hk,q⟩
   . exact zeP q hi
   . exact zlJ q hi J
  rw [ziq hne];by_cases e:j=i
  . subst e;rw [hi] at hoj; cases hoj;rw [hdst,zbl,zg.ev_set,if_pos rfl];exact hfa r hop
  . rw [ziq (zlJ hon hi (λq=>e q.symm))];exact hd.2.2.1 j oj r a J hoj hop hdst hfx hon
 case refine_4=>
  rw [ziq (zeP hfx hi)];rcases List.mem_append.1 hp with hp | hp
  . obtain ⟨e,_⟩:=hnew p hp;rw [e,hi] at hoj; cases hoj;exact hap p hp hia r hr
  . exact hd.2.2.2.1 r hr hfx p hp oj hoj hia
 case refine_5=>
  rw [ziq (zeP (zcN hrl) hi)];rcases List.mem_append.1 hp with hp | hp
  . obtain ⟨e,_⟩:=hnew p hp;rw [e] at hrl hoj;rw [hi] at hoj; cases hoj;exact λx hx=>hd.2.2.at (Nat.le_refl _) hrl x (hld p hp t a hop x hx)
  . exact hd.2.2.2.2.1 p hp oj t a hoj hop r hrl
 case refine_6=>
  rcases List.mem_append.1 hp with hp | hp
  . obtain ⟨e,_⟩:=hnew p hp;rw [e,hi] at hoj; cases hoj;obtain ⟨z1,z2⟩:=hsw p hp t a y hop;refine ⟨z1,λr hrl x hx=>?_⟩;rw [ziq (zeP (zcN hrl) hi)];rw [e] at hrl;exact hd.2.2.at (Nat.le_refl _) hrl x (z2 x hx)
  . obtain ⟨z1,z2⟩:=hd.2.2.2.2.2.1 p hp oj t a y hoj hop;refine ⟨z1,λr hrl x hx=>?_⟩;rw [ziq (zeP (zcN hrl) hi)];exact z2 r hrl x hx
 case refine_7=>
  rw [ziq (zeP hfx hi),ziq (zeP hfx' hi)];exact hd.2.2.2.2.2.2 r hr r' hr' hne hfx hfx'
 . rcases List.mem_append.1 hp with hp | hp
   . obtain ⟨e,h1,h2,h3,h4,h5⟩:=hnew p hp;refine ⟨by omega,h1,λo' ho'=>?_,λo' ho'=>?_,h4,λo' ho' hq=>?_⟩
     . rw [e,hi] at ho'; cases ho'; exact h2
     . rw [e,hi] at ho'; cases ho'; exact h3
     . rw [e] at hq ho'; rw [hi] at ho'; cases ho';obtain ⟨k1,k2,k3,k4⟩:=h5 hq;exact ⟨k1,k2,λb hb=>up b (k3 b hb),k4⟩
   . obtain ⟨h1,h2,h3,h4,h5,h6⟩:=hd.1 p hp;refine ⟨by omega,h2,h3,h4,λb hb=>Nat.lt_of_lt_of_le (h5 b hb) hn,λo' ho' hq=>?_⟩;obtain ⟨k1,k2,k3,k4⟩:=h6 o' ho' hq;exact ⟨k1,k2,λb hb=>up b (k3 b hb),k4⟩
 . by_cases e:j=i
   . subst e;rw [hi] at hoj; cases hoj;obtain ⟨b,h1,h2⟩:=hal ha hg t hdst;refine ⟨b,h1,λp hp hpj c hc=>?_⟩;rcases List.mem_append.1 hp with hp | hp
     . obtain ⟨e,_⟩:=hnew p hp; omega
     . exact Nat.lt_of_lt_of_le ((hd.1 p hp).2.2.2.2.1 c hc) h2
   . obtain ⟨b,h1,h2⟩:=hd.2.1 j oj t J hoj ha hg hdst hu;refine ⟨b,by rw [ziq (hu i o J hi)]; exact h1,λp hp hpj c hc=>?_⟩;rcases List.mem_append.1 hp with hp | hp
     . obtain ⟨e,_⟩:=hnew p hp; omega
     . exact h2 p hp hpj c hc
theorem zmt (ev:Operand->zb) {o:Oper} (h:zdk o.op=Od):foot ev o=⟨[],Oc,[],Oc⟩:=by
 unfold foot;cases ho:o.op<;>rw [ho] at h<;>simp only [zdk] at h<;>(try (cases h; done))<;>(try rfl);rename_i c;cases hc:c.callee with
 | value f=>rw [hc] at h; cases h
 | invoke r m=>rw [hc] at h; cases h
 | builtin bb=>
  rw [hc] at h;cases bb<;>simp at h<;>simp [hc]
theorem zuI (ev:Operand->zb) {o:Oper} (h:zkp o.op=Od):(foot ev o).rall=Oc:=by
 unfold foot;cases ho:o.op<;>rw [ho] at h<;>simp only [zkp] at h<;>(try (cases h; done))<;>(try rfl);rename_i c;cases hc:c.callee with
 | value f=>rw [hc] at h; cases h
 | invoke r m=>rw [hc] at h; cases h
 | builtin bb=>
  rw [hc] at h;cases bb<;>simp at h<;>simp [hc]
theorem znO (ev:Operand->zb) (o:Oper):(foot ev o).wall=Oc:=by
 unfold foot;split<;>(try rfl);split<;>rfl
def zr (C:Ctx) (T:Tab) (d:Option (List Nat)) (ops rest:List Oper) (M:Env) (L:Own) (Q:zg->za->Prop):Prop:=
 match d with
 | none=>∀ fr h,St C M L fr h->wX T ops rest fr h Q
 | some ol=>∀ z fr h i done,StZ C M L z fr h->ops.drop i=rest->znM ops ol ops.length=Od->zlI ops ol z i fr h done->Draw T ops rest i done fr h Q
def ze5 (C:Ctx) (T:Tab) (c:Code) (M:Env) (L:Own) (P:zaC->zg->za->Prop):Prop:=∀ fr h,St C M L fr h->Run T c fr h P
section
variable {C:Ctx} {T:Tab} {d:Option (List Nat)} {ops rest:List Oper} {M:Env} {L:Own} {Q:zg->za->Prop} {P:zaC->zg->za->Prop} {o:Oper}
inductive Want (ops:List Oper) (M:Env) (w:Bool):Option (Nat×Bool)->Prop where
 | n (h:w=Od):Want ops M w Oe
 | g {j t:Nat} {want b:Bool} (h1:(ops[j]?).bind (λ(o:Oper)=>o.dst)=Ob t) (h2:look M t=Ob (.val zaS b)) (h3:(b==want)=w):Want ops M w (Ob (j,want))
 | u {j t:Nat} {want:Bool} (hw:w=Oc) (h1:(ops[j]?).bind (λ(o:Oper)=>o.dst)=Ob t) (h2:look M t=Ob (.raw unit)):Want ops M w (Ob (j,want))
theorem zo1 {z:Store} {v:zb} {b:Bool} (t:TV zaS z v b):v=.bool b:=by
 have h1:=t.agg;have h2:=t.rel;cases v<;>simp_all [zb.isAgg,zb.cells,zaS]
theorem zzs {z:Store} {v:zb} {k:IntKind} {n:Int} (t:TV (zi k) z v n):v=.int k n:=by
 have h1:=t.agg;have h2:=t.rel;cases v<;>simp_all [zb.isAgg,zb.cells,zi]
theorem zcc {z:Store} {k:IntKind} {n:Int} (h1:k.min<=n) (h2:n<=k.max):TV (zi k) z (.int k n) n:=⟨⟨rfl,h1,h2⟩,rfl⟩
theorem zec {z:Store} {v:zb} {k:IntKind} {n:Int} (t:TV (zi k) z v n):k.min<=n/\n<=k.max:=t.rel.2
theorem zfG {z:Store} {b:Bool}:TV zaS z (.bool b) b:=⟨rfl,rfl⟩
theorem zgR {A:Type} {R:Rep A} {z:Store} {v:zb} {xs:List A} (t:TV (ze R) z v xs):zgO R z v xs:=by
 obtain ⟨h1,h2⟩:=t;obtain ⟨w,h3,h4⟩:=h1;cases v<;>simp_all [zb.isAgg,zb.cells,ze]
theorem zbo {A:Type} {R:Rep A} {z:Store} {v:zb} {xs:List A} (r:zgO R z v xs):TV (ze R) z v xs:=by
 rcases r.2 with ⟨rfl,_⟩ | ⟨b,off,cap,rfl,_⟩ | ⟨b,off,cap,cells,ro,rfl,_⟩<;>exact ⟨⟨_,rfl,r⟩,rfl⟩
theorem zir {A:Type} {R:Rep A} {z:Store} {v:zb} {x:A} (t:TV (zaO R) z v x):zq1 R z v x:=by
 obtain ⟨h1,h2⟩:=t;obtain ⟨w,h3,h4⟩:=h1;cases v<;>simp_all [zb.isAgg,zb.cells,zaO]
theorem zfT {A:Type} {R:Rep A} {z:Store} {v:zb} {x:A} (r:zq1 R z v x):TV (zaO R) z v x:=by
 obtain ⟨b,off,cells,ro,rfl,h⟩:=r;exact ⟨⟨_,rfl,b,off,cells,ro,rfl,h⟩,rfl⟩
theorem Want.ok {w:Bool} {g:Option (Nat×Bool)} (q:Want ops M w g) {z:Store} {fr:zg} (hf:ziM z M fr):awanted ops fr g=Ob w:=by
 cases q with
 | n h=>rw [h]; rfl
 | g h1 h2 h3=>
  have:=zo1 (by simpa only [TE.ok] using hf _ _ h2);rw [zr6 h1 this,h3]
 | u hw h1 h2=>
  have:=hf _ _ h2;simp only [TE.ok] at this;subst hw;unfold awanted;simp only [h1,this,unit]
theorem zfp (q:∀ fr h,St C M L fr h->Q fr h):zr C T d ops [] M L Q:=by
 cases d with
 | none=>exact λfr h s=>q fr h s
 | some ol=>exact λz fr h i done s _ _ _=>zpT (q fr h ⟨z,s⟩)
theorem zem {M':Env} {L':Own} (q:∀ z fr h,StZ C M L z fr h->∃ z',z.le z'/\StZ C M' L' z' fr h) (r:zr C T d ops rest M' L' Q):zr C T d ops rest M L Q:=by
 cases d with
 | none=>
  intro fr h ⟨z,s⟩;obtain ⟨z',_,s'⟩:=q z fr h s;exact r fr h ⟨z',s'⟩
 | some ol=>
  intro z fr h i done s hr hok hd;obtain ⟨z',hz,s'⟩:=q z fr h s;refine r z' fr h i done s' hr hok ⟨λp hp=>?_,hd.2⟩;obtain ⟨h1,h2,h3,h4,h5,h6⟩:=hd.1 p hp;refine ⟨h1,h2,h3,h4,h5,λo ho hq=>?_⟩;obtain ⟨k1,k2,k3,k4⟩:=h6 o ho hq;refine ⟨k1,k2,λb hb=>?_,k4⟩;cases e:z b with
  | none=>exact absurd e (k3 b hb)
  | some x=>rw [hz b x e]; exact λq=>by cases q
theorem zzt {t:Nat} (hw:Want ops M Oc o.guard) (hd:o.dst=Ob t) (r:zr C T d ops rest ((t,.raw unit)::M) L Q):zr C T d ops (o::rest) M L Q:=by
 cases d with
 | none=>
  intro fr h ⟨z,s⟩;simp only [wX,hw.ok s.fr,hd,zbl];exact r _ _ ⟨z,s.set (by simp only [TE.ok])⟩
 | some ol=>
  intro z fr h i done s hr hok hdn;have hi:ops[i]?=Ob o:=by have:=congrArg (λl=>l[0]?) hr; simpa using this
  have hr':ops.drop (i+1)=rest:=by have:=congrArg List.tail hr; simpa using this
  refine znF (hw.ok s.fr) ?_;have hn:=hdn.next (z':=z) (h':=h) (v:=unit) hi (.refl _) (Nat.le_refl _) [] (λp hp=>by cases hp) (λhal hg t hdst=>by
   have:=hw.ok s.fr;rw [hg] at this; cases this) (λ_ _ x hx=>(nomatch hx)) (λp hp=>by cases hp) (λp hp=>by cases hp) (λp hp=>by cases hp)
  rw [hd,zbl] at hn ⊢;exact r z _ h (i+1) done (s.set (by simp only [TE.ok])) hr' hok hn
def Listed (d:Option (List Nat)) (ops rest:List Oper):Prop:=∀ ol,d=Ob ol->ol.contains (ops.length-(rest.length+1))=Od
def zzu (C:Ctx) (d:Option (List Nat)) (M:Env) (L:Own) (o:Oper):Prop:=zhZ o.op=Od->∀ ol,d=Ob ol->∀ r∈zcT ol,∀ z fr h,StZ C M L z fr h->∀ x∈zN (fr.ev r),x∉(foot fr.op o).wr
inductive Rd (C:Ctx) (d:Option (List Nat)) (ops rest:List Oper) (M:Env) (L:Own) (o:Oper):Prop where
 | f (h:∀ z fr h,StZ C M L z fr h->(foot fr.op o).wr=[]/\(foot fr.op o).rall=Oc/\(∀ b,b∈(foot fr.op o).rd->z b≠Oe)/\(zi3 o.op=Od->(foot fr.op o).rd=[]))
 | l (h:Listed d ops rest) (hn:zdk o.op=Oc) (ha:zhZ o.op=Oc)
 | w (hn:zdk o.op=Oc) (hl:∀ t a,o.op≠.load t a) (hle:zo0 o.op=Oc) (ha:zzu C d M L o)
theorem Rd.ok {ol:List Nat} {z:Store} {fr:zg} {h:za} {i:Nat} (q:Rd C (Ob ol) ops rest M L o) (s:StZ C M L z fr h) (hr:ops.drop i=o::rest) (hq:zeO ol i o.op=Od):(foot fr.op o).wr=[]/\(foot fr.op o).rall=Oc/\(∀ b,b∈(foot fr.op o).rd->z b≠Oe)/\(zi3 o.op=Od->(foot fr.op o).rd=[]):=by
 have hi:i=ops.length-(rest.length+1):=by
  have:=congrArg List.length hr;simp at this;omega
 cases q with
 | f h=>exact h z fr _ s
 | l h hn ha=>
  have:=h ol rfl;rw [← hi] at this;unfold zeO at hq;rw [hn,Bool.false_or,this,Bool.not_true,Bool.and_false] at hq;cases hq
 | w hn hl hle ha=>
  unfold zeO at hq;rw [hn,Bool.false_or,hle,Bool.false_or,Bool.and_eq_true] at hq;have:=hq.1;unfold znJ at this;split at this
  . rename_i t a e; exact absurd e (hl t a)
  . cases this
theorem Rd.app {ol:List Nat} {z:Store} {fr:zg} {h:za} (q:Rd C (Ob ol) ops rest M L o) (s:StZ C M L z fr h) (ha:zhZ o.op=Od):∀ r∈zcT ol,∀ x∈zN (fr.ev r),x∉(foot fr.op o).wr:=by
 cases q with
 | f k=>rw [(k z fr _ s).1]; exact λr _ x _ hx=>(nomatch hx)
 | l _ _ hn=>rw [hn] at ha; cases ha
 | w _ _ _ k=>exact λr hr=>k ha ol rfl r hr z fr h s
theorem zmu {fr:zg} {h h':za} {v:zb} {s r f:Nat} (ho:o.op=.fieldAddr s (.tmp r) f) (ha:aop T fr.op h o.op=Ob (.val v h')):∀ x∈zN v,x∈zN (fr.ev r):=by
 rw [ho] at ha;simp only [aop,zae,Option.map] at ha;split at ha
 case h_2=>cases ha
 rename_i w hw;cases ha;unfold zfD at hw;split at hw
 . split at hw
   . split at hw
     . rename_i e;rw [zwm] at e;split at hw
       . cases hw
       . cases hw;rw [e];exact λx hx=>hx
     . cases hw
   . cases hw
 . cases hw
theorem zuJ {fr:zg} {h h':za} {v:zb} {r:Nat} (hl:zkq o.op=Ob r) (ha:aop T fr.op h o.op=Ob (.val v h')):∀ x∈zN v,x∈zN (fr.ev r):=by
 unfold zkq at hl;split at hl
 . rename_i e;cases hl;exact zmu e ha
 . rename_i e;cases hl;rw [e] at ha;simp only [aop,zdC] at ha;split at ha
   case h_4=>cases ha
   all_goals
    rename_i e;rw [zwm] at e;cases ha;rw [e];exact λx hx=>hx
 . rename_i e;cases hl;rw [e] at ha;simp only [aop] at ha;cases ha;exact λx hx=>hx
 . cases hl
theorem zgc (hw:Want ops M Od o.guard) (hrd:Rd C d ops rest M L o)
    (H:∀ z fr h,StZ C M L z fr h->∃ v h' z' M' L',aop T fr.op h o.op=Ob (.val v h')/\zjz z h (foot fr.op o)/\z.le z'/\StZ C M' L' z' (putDst fr o.dst v) h'/\zr C T d ops rest M' L' Q):zr C T d ops (o::rest) M L Q:=by
  cases d with
  | none=>
    intro fr h ⟨z,s⟩;obtain ⟨v,h',z',M',L',ha,_,_,s',r⟩:=H z fr h s;simp only [wX,hw.ok s.fr,ha];exact r _ _ ⟨z',s'⟩
  | some ol=>
    intro z fr h i done s hr hok hd;obtain ⟨v,h',z',M',L',ha,hft,hz,s',r⟩:=H z fr h s;have hi:ops[i]?=Ob o:=by have:=congrArg (λl=>l[0]?) hr; simpa using this
    have hlt:i<ops.length:=(List.getElem?_eq_some_iff.1 hi).1;have hr':ops.drop (i+1)=rest:=by have:=congrArg List.tail hr; simpa using this
    have hk:=zhc ha;refine zsa (hw.ok s.fr) ha s.chg.ok rfl (zgb hi hd (zhe hok i hlt) (znO _ _) hft (zmt _) (zuI _) (λq=>(zjw q).1) (λt et y q=>zse _ q) (λt a q=>zsd _ q) (λq=>hrd.app s q)) ?_;refine r z' _ h' (i+1) _ s' hr' hok (hd.next (v:=v) hi hz hk.1 [(i,foot fr.op o)] ?_ ?_ (λr q=>zuJ q ha) ?_ ?_ ?_)
    · intro p hp;rw [List.mem_singleton] at hp;subst hp;exact ⟨rfl,znO _ _,λq=>(zjw q).1,λq=>zsf _ q,λb hb=>Nat.lt_of_lt_of_le (hb.elim (hft.rd b) (λq=>(hft.wr b q).1)) hk.1,λq=>hrd.ok s hr q⟩
    · intro hal hg t hdst;obtain ⟨e1,e2⟩:=zsg hal ha;refine ⟨h.next, ?_,Nat.le_refl _⟩;rw [hdst,zbl,zg.ev_set,if_pos rfl,e1]
    · intro p hp t a q x hx;rw [List.mem_singleton] at hp;subst hp;rw [zsd _ q] at hx;exact hx
    · intro p hp q;rw [List.mem_singleton] at hp;subst hp;exact hrd.app s q
    · intro p hp t a y q;rw [List.mem_singleton] at hp;subst hp;rw [zse _ q];exact ⟨rfl,λx hx=>hx⟩
theorem nf (h:zdk o.op=Od):Rd C d ops rest M L o:=.f λz fr hh _=>by
 rw [zmt _ h];exact ⟨rfl,rfl,λb hb=>(nomatch hb),λ_=>rfl⟩
theorem nfo {z:Store} {fr:zg} {hh:za} (h:zdk o.op=Od):zjz z hh (foot fr.op o):=by
 rw [zmt _ h];exact ⟨λb hb=>(nomatch hb),λb hb=>(nomatch hb)⟩
theorem zgh {t:Nat} {e:TE} (hrd:Rd C d ops rest M L o) (hft:∀ z fr h,StZ C M L z fr h->zjz z h (foot fr.op o)) (hw:Want ops M Od o.guard) (hd:o.dst=Ob t) (H:∀ z fr h,StZ C M L z fr h->∃ v,aop T fr.op h o.op=Ob (.val v h)/\e.ok z v) (r:zr C T d ops rest ((t,e)::M) L Q):zr C T d ops (o::rest) M L Q:=
 zgc hw hrd λz fr h s=>by
  obtain ⟨v,h1,h2⟩:=H z fr h s;exact ⟨v,h,z,_,_,h1,hft z fr h s,.refl _,by rw [hd,zbl]; exact s.set h2,r⟩
theorem zal {t:Nat} {e:TE} (hn:zdk o.op=Od) (hw:Want ops M Od o.guard) (hd:o.dst=Ob t) (H:∀ z fr h,StZ C M L z fr h->∃ v,aop T fr.op h o.op=Ob (.val v h)/\e.ok z v) (r:zr C T d ops rest ((t,e)::M) L Q):zr C T d ops (o::rest) M L Q:=
 zgh (nf hn) (λ_ _ _ _=>nfo hn) hw hd H r
inductive Opd (M:Env):Operand->TE->Prop where
 | t {t:Nat} {e:TE} (h:look M t=Ob e):Opd M (.tmp t) e
 | i {k:IntKind} {n:Int} (h1:k.min<=n) (h2:n<=k.max):Opd M (.const (.int k n)) (.val (zi k) n)
 | b {b:Bool}:Opd M (.const (.bool b)) (.val zaS b)
 | nil {A:Type} {R:Rep A}:Opd M (.const (.slice Oe 0 0)) (.val (ze R) [])
 | nilr:Opd M (.const (.slice Oe 0 0)) (.raw .nsz)
 | f {g:FuncId}:Opd M (.func g) (.raw (.func (.func g) [] []))
 | fv {A:Type} {R:Rep A} {x:A} {g:FuncId} (h:∀ z,TV R z (.func (.func g) [] []) x):Opd M (.func g) (.val R x)
theorem zi7 {A:Type} {R:Rep A} {z:Store}:zgO R z .nsz []:=⟨by simp [maxLen],.inl ⟨rfl,rfl⟩⟩
theorem Opd.ok {x:Operand} {e:TE} (q:Opd M x e) {z:Store} {fr:zg} (hf:ziM z M fr):e.ok z (fr.op x):=by
 cases q with
 | t h=>exact hf _ _ h
 | i h1 h2=>simp only [TE.ok]; exact zcc h1 h2
 | b=>simp only [TE.ok]; exact zfG
 | nil=>simp only [TE.ok]; exact zbo zi7
 | nilr=>simp only [TE.ok]; rfl
 | f=>simp only [TE.ok]; rfl
 | fv h=>simp only [TE.ok]; exact h z
theorem Opd.int {x:Operand} {k:IntKind} {n:Int} (q:Opd M x (.val (zi k) n)) {z:Store} {fr:zg} (hf:ziM z M fr):fr.op x=.int k n:=zzs (by simpa only [TE.ok] using q.ok hf)
theorem Opd.bool {x:Operand} {b:Bool} (q:Opd M x (.val zaS b)) {z:Store} {fr:zg} (hf:ziM z M fr):fr.op x=.bool b:=zo1 (by simpa only [TE.ok] using q.ok hf)
theorem Opd.val {A:Type} {R:Rep A} {x:Operand} {a:A} (q:Opd M x (.val R a)) {z:Store} {fr:zg} (hf:ziM z M fr):TV R z (fr.op x) a:=by simpa only [TE.ok] using q.ok hf
theorem Opd.raw {x:Operand} {v:zb} (q:Opd M x (.raw v)) {z:Store} {fr:zg} (hf:ziM z M fr):fr.op x=v:=by simpa only [TE.ok] using q.ok hf
variable {t:Nat}
theorem zzv {x:Operand} {e:TE} (hw:Want ops M Od o.guard) (ho:o.op=.move x) (hd:o.dst=Ob t) (hx:Opd M x e) (r:zr C T d ops rest ((t,e)::M) L Q):zr C T d ops (o::rest) M L Q:=
 zal (by rw [ho]; rfl) hw hd (λz fr h s=>⟨fr.op x,by rw [ho]; rfl,hx.ok s.fr⟩) r
theorem zdF {x:Operand} {e:TE} (hw:Want ops M Od o.guard) (ho:o.op=.assign x) (hd:o.dst=Ob t) (hx:Opd M x e) (r:zr C T d ops rest ((t,e)::M) L Q):zr C T d ops (o::rest) M L Q:=
 zal (by rw [ho]; rfl) hw hd (λz fr h s=>⟨fr.op x,by rw [ho]; rfl,hx.ok s.fr⟩) r
inductive Ar (k:IntKind) (a b:Int):BinOp->Int->Prop where
 | add:Ar k a b .add (k.wrap (a+b))
 | sub:Ar k a b .sub (k.wrap (a-b))
 | mul:Ar k a b .mul (k.wrap (a*b))
 | quo (h:b≠0):Ar k a b .quo (k.wrap (a.tdiv b))
 | and:Ar k a b .and (k.wrap ((BitVec.ofInt k.bits a &&& BitVec.ofInt k.bits b).toNat))
 | or:Ar k a b .or (k.wrap ((BitVec.ofInt k.bits a ||| BitVec.ofInt k.bits b).toNat))
 | xor:Ar k a b .xor (k.wrap ((BitVec.ofInt k.bits a ^^^ BitVec.ofInt k.bits b).toNat))
 | andNot:Ar k a b .andNot (k.wrap ((BitVec.ofInt k.bits a &&& ~~~ (BitVec.ofInt k.bits b)).toNat))
inductive Cmp (a b:Int):BinOp->Bool->Prop where
 | eql:Cmp a b .eql (a==b)
 | neq:Cmp a b .neq (a !=b)
 | lss:Cmp a b .lss (decide (a<b))
 | leq:Cmp a b .leq (decide (a<=b))
 | gtr:Cmp a b .gtr (decide (a>b))
 | geq:Cmp a b .geq (decide (a>=b))
theorem zed (k:IntKind) (n:Int):k.min<=k.wrap n/\k.wrap n<=k.max:=by
 cases k<;>simp only [IntKind.wrap,IntKind.min,IntKind.max,IntKind.bits,IntKind.signed]<;>simp<;>(try split)<;>omega
theorem zBY {op:BinOp} {u u':TypeId} {k:IntKind} {x y:Operand} {a b n:Int} (hw:Want ops M Od o.guard) (ho:o.op=.binOp op u x y u') (hd:o.dst=Ob t) (hx:Opd M x (.val (zi k) a)) (hy:Opd M y (.val (zi k) b)) (hr:Ar k a b op n)
 (r:zr C T d ops rest ((t,.val (zi k) n)::M) L Q):zr C T d ops (o::rest) M L Q:=by
 refine zal (by rw [ho]; rfl) hw hd (λz fr h s=>⟨.int k n, ?_, ?_⟩) r
 . rw [ho];simp only [aop,abin,hx.int s.fr,hy.int s.fr];cases hr<;>simp_all [aint,zae]
 . simp only [TE.ok];have:∃ m,n=k.wrap m:=by cases hr<;>exact ⟨_,rfl⟩
   obtain ⟨m,rfl⟩:=this;exact zcc (zed k m).1 (zed k m).2
end
end Go.Ai.Sx