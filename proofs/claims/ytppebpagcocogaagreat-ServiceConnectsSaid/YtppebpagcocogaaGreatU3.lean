/- An abstract interpreter for the model's code: one more operation of a drawn region; the whole region. -/
import Derived.Test.YtppebpagcocogaaGreatU2
import Derived.ChangeArms
import Derived.ChangeShapes
import Derived.WideShapes
import Derived.RowKit
import Derived.IntWalk
set_option linter.unusedSimpArgs false
set_option linter.unusedVariables false
set_option linter.unusedSectionVars false
namespace Go.Ai
open Option renaming bind->Zb,bind_some->Zs
open Classical
def opF (f:Nat->ze):Operand->ze
 | .tmp t=>f t
 | x=>zf.op .leaf x
theorem zyr (fr:zf) (x:Operand):fr.op x=opF fr.ev x:=by cases x<;>rfl
theorem zom {ρ:Emb} {f:Nat->ze} {tmps:Array Value} (h:∀ t,zaa ρ (f t) (tmps.getD t undef)) (x:Operand):zaa ρ (opF f x) (evT tmps x):=by
 cases x with
 | tmp t=>exact h t
 | const v=>
  show zaa ρ ((zhe v).getD .undef) v;cases h:zhe v with
  | none=>exact .undef v
  | some y=>exact zez ρ v y h
 | global g=>exact .undef _
 | func f=>exact .func _ _ [] [] #[] #[] (.inr ⟨f,rfl,rfl⟩) rfl rfl (by simp) (by simp)
theorem zlO {ops:List Oper} {o:Oper} {t:Nat} (h:Operand.tmp t∈o.op.operands.toList):t∈looks ops o:=by
 unfold looks;exact List.mem_append.2 (.inl (List.mem_flatMap.2 ⟨_,h,by simp [zqZ]⟩))
section
variable {T:Tab} {P:Program} {base:Nat} {call:Caller} {ops:Array Oper} {n:Nat} {st:Nat->zf×za} {vl:Nat->ze} {ft:Nat->Foot} {ex:Nat->Bool}
variable {ρ0:Emb} {w0:World} {S:Nat->Prop} {ρ:Emb} {tmps:Array Value} {w:World} {hS:za}
variable (s:Setup T P base call ops n st vl ft ex) (hl0:∀ b l,ρ0 b=some l->b<(st 0).2.next) (inv:Inv base ops n st vl ρ0 w0 S ρ tmps w hS)
variable {i:Nat} (hi:i<ops.size) (hn:¬ S i) (hp:preds ops S i)
include s inv hi hn hp in
theorem zio {o:Oper} (ho:ops.toList[i]?=some o) {x:Operand} (hx:x∈o.op.operands.toList):(st i).1.op x=opF (fcont ops.toList st vl S ops.size) x:=by
 rw [zyr];cases x with
 | tmp t=>exact (zrg s inv hi hn hp ho (zlO hx)).symm
 | const v=>rfl
 | global g=>rfl
 | func f=>rfl
include inv hi hp in
theorem zye:Closed ops (λx=>S x\/x=i):=by
 intro j hj o ho e he hb;rcases hj with hj | hj
 . exact .inl (inv.closed j hj o ho e he hb)
 . subst hj; exact .inl (hp o ho e he hb)
include s inv hi hn in
theorem zm5 {o:Oper} (ho:ops.toList[i]?=some o) {ρ2:Emb} {v':Value} (he:Ext ρ ρ2) (hv:zaa ρ2 (vl i) v') (hd:∀ d,o.dst=some d->d<tmps.size) (t:Nat) :
    zaa ρ2 (fcont ops.toList st vl (λx=>S x\/x=i) ops.size t) ((zgl tmps o.dst v').getD t undef):=by
  have hdo:zf9 ops.toList i=o.dst:=by unfold zf9; rw [ho]; rfl
  by_cases e:o.dst=some t
  · rw [(zjL hn ops.size).2 (hdo.trans e) hi (ztK s inv hn ho e)];rw [e];have hlt:=hd t e;simp [zgl,Array.getD,hlt];exact hv
  · rw [(zjL hn ops.size).1 (by rw [hdo]; exact e)];have:=(inv.frame t).mono he;cases hdst:o.dst with
    | none=>exact this
    | some d=>
      have hne:d≠t:=λq=>e (by rw [hdst,q]);simp only [zgl];rw [show (tmps.setIfInBounds d v').getD t undef=tmps.getD t undef from by
        simp [Array.getD_eq_getD_getElem?,Array.getElem?_setIfInBounds,hne]]
      exact this
variable (fn:FuncId) (kind:CallKind) (rnd:Option Nat) (ds:List Deferred) (is:List Nat) (k:List Item) (cs:List Frame)
def Goes (P:Program) (base:Nat) (ops:Array Oper) (n:Nat) (st:Nat->zf×za) (vl:Nat->ze) (ρ0:Emb) (w0:World) (S:Nat->Prop) (i:Nat) (tmps:Array Value) (w:World)
 (fn:FuncId) (kind:CallKind) (rnd:Option Nat) (ds:List Deferred) (is:List Nat) (k:List Item) (cs:List Frame):Prop:=
 ∃ ρ2 tmps2 w2 h2,Inv base ops n st vl ρ0 w0 (λx=>S x\/x=i) ρ2 tmps2 w2 h2 /\
  Steps P (lone (fat fn kind rnd tmps ds (.inRegion ops (i::is)::k)) cs w) (lone (fat fn kind rnd tmps2 ds (.inRegion ops is::k)) cs w2)
include s inv hi hn hp in
theorem zri {o:Oper} (ho:ops.toList[i]?=some o) (hd:∀ d,o.dst=some d->d<tmps.size) (hw:Region.wanted o (yielded ops tmps)=false) (hv:vl i=unit) (e:(st (i+1)).2=(st i).2) :
 Goes P base ops n st vl ρ0 w0 S i tmps w fn kind rnd ds is k cs:=by
 have hoi:ops[i]?=some o:=by simpa using ho
 have hnc:∀ b,ρ b≠none->¬ Chg st i b:=by
  intro b _ hc;unfold Chg at hc;rw [e] at hc;rcases hc.2 with q | q
  . have:=hc.1; omega
  . exact q rfl
 refine ⟨ρ,zgl tmps o.dst undef,w,hS,⟨zye inv hi hp, ?_,by rw [zdt]; exact inv.size, ?_, ?_,inv.heap,inv.core, ?_, ?_⟩, ?_⟩
 . rintro j (hj | rfl)
   . exact inv.lt j hj
   . exact hi
 . exact zm5 s inv hi hn ho (.refl _) (by rw [hv]; exact .tuple' (.nil _)) hd
 . intro b l hb;rw [(zdV hn ops.size).1 (hnc b (by rw [hb]; simp))];exact inv.cont b l hb
 . intro b l hb;rcases inv.dom b l hb with q | ⟨m,hm,q⟩
   . exact .inl q
   . exact .inr ⟨m,.inl hm,q⟩
 . intro m b hm hb hr;rcases hm with hm | rfl
   . exact inv.junk m b hm hb hr
   . rw [e]
 . have hst:=zk5 (P:=P) (fn:=fn) (kind:=kind) (rnd:=rnd) (tmps:=tmps) (ds:=ds) (k:=k) (cs:=cs) (w:=w) (ops:=ops) (i:=i) (is:=is) (by simp [hoi,hw]);rw [hoi] at hst;simp only [Zs] at hst;exact .one hst
include s hl0 inv hi hn hp in
theorem zrj {o:Oper} (ho:ops.toList[i]?=some o) (hd:∀ d,o.dst=some d->d<tmps.size) {ρs ρ':Emb} {g g':za} {w':World} {v':Value}
    (hsub:Ext ρs ρ) (hg:∀ b l,ρs b=some l->g.get b=hS.get b) (ht:Trans ρs g w ρ' g' w') (hr':H0 base ρ' g' w') (hv:zaa ρ' (vl i) v')
    (gn:g.next=(st i).2.next) (gn':g'.next=(st (i+1)).2.next)
    (ha:∀ b l,ρ' b=some l->g'.get b=hcont st (λx=>S x\/x=i) ops.size b)
    (hb:∀ b l,ρ b=some l->ρ' b=none->¬ Chg st i b)
    (hj:∀ b,b<(st i).2.next->ρ b=none->(st (i+1)).2.get b=(st i).2.get b)
    (hst:Steps P (lone (fat fn kind rnd tmps ds (.inRegion ops (i::is)::k)) cs w) (lone (fat fn kind rnd (zgl tmps o.dst v') ds (.inRegion ops is::k)) cs w')) :
    Goes P base ops n st vl ρ0 w0 S i tmps w fn kind rnd ds is k cs:=by
  have hbound:∀ b l,union ρ' ρ b=some l->b<(st ops.size).2.next:=by
    intro b l h;have old:∀ l,ρ b=some l->b<(st ops.size).2.next:=by
      intro l h;rcases inv.dom b l h with q | ⟨m,hm,q1,q2⟩
      · have:=hl0 b l q;have:=s.mono (m:=0) (k:=ops.size) (by omega) (by omega);omega
      · have:=inv.lt m hm;have:=s.mono (m:=m+1) (k:=ops.size) (by omega) (by omega);omega
    cases h':ρ' b with
    | none=>rw [zfj h'] at h; exact old l h
    | some l'=>
      rcases ht.dom b l' h' with q | ⟨q1,q2⟩
      · exact old l' (hsub b l' q)
      · have:=s.mono (m:=i+1) (k:=ops.size) (by omega) (by omega);omega
  obtain ⟨h2,hn2,hget⟩:=zvA (hcont st (λx=>S x\/x=i) ops.size) 0 (st ops.size).2.next;have hcont2:∀ b l,union ρ' ρ b=some l->h2.get b=hcont st (λx=>S x\/x=i) ops.size b:=λb l h=>by
    rw [hget,if_pos (hbound b l h)]
  have ha2:∀ b l,ρ' b=some l->h2.get b=g'.get b:=λb l h=>by rw [hcont2 b l (zfM h),ha b l h]
  have hb2:∀ b l,ρ b=some l->ρ' b=none->h2.get b=hS.get b:=λb l h h'=>by
    rw [hcont2 b l (by rw [zfj h']; exact h),(zdV hn ops.size).1 (hb b l h h'),inv.cont b l h]
  obtain ⟨e1,e2,m1,m2⟩:=ztL inv.heap hsub hg ht hr' (λb h1 h2=>zji s hl0 inv hi hn (by omega) (by omega)) ha2 hb2;refine ⟨union ρ' ρ,zgl tmps o.dst v',w',h2,⟨zye inv hi hp, ?_,by rw [zdt]; exact inv.size, ?_,hcont2,m1,inv.core.trans m2, ?_, ?_⟩,hst⟩
  · rintro j (hj | rfl)
    · exact inv.lt j hj
    · exact hi
  · exact zm5 s inv hi hn ho e1 (hv.mono e2) hd
  · intro b l h;have old:ρ b=some l->ρ0 b=some l\/∃ m,(S m\/m=i)/\(st m).2.next<=b/\b<(st (m+1)).2.next:=by
      intro h;rcases inv.dom b l h with q | ⟨m,hm,q⟩
      · exact .inl q
      · exact .inr ⟨m,.inl hm,q⟩
    cases h':ρ' b with
    | none=>rw [zfj h'] at h; exact old h
    | some l'=>
      have hl:l'=l:=by rw [zfM h'] at h; cases h; rfl
      subst hl;rcases ht.dom b l' h' with q | ⟨q1,q2⟩
      · exact old (hsub b l' q)
      · exact .inr ⟨i,.inr rfl,by omega,by omega⟩
  · intro m b hm hlt hr;have hr1:ρ b=none:=by
      cases h:ρ b with
      | none=>rfl
      | some l=>rw [e1 b l h] at hr; cases hr
    rcases hm with hm | rfl
    · exact inv.junk m b hm hlt hr1
    · exact hj b hlt hr1
include s inv hi hn hp in
theorem ztM {o:Oper} (ho:ops.toList[i]?=some o) {b:Nat} (hb:b∈(foot (st i).1.op o).rd\/b∈(foot (st i).1.op o).wr):(∃ l,ρ b=some l)/\b<(st i).2.next:=by
 obtain ⟨a,ha,hb⟩:=zm2 hb;constructor
 . rw [zio s inv hi hn hp ho ha] at hb;exact zm3 (zom inv.frame a) hb
 . obtain ⟨ρi,ti,wi,h1,h2,h3⟩:=s.run i (by omega);obtain ⟨l,hl⟩:=zm3 (zhF h2 a) hb;exact h3.lt b l hl
include hi hn in
theorem zpj {b:Nat} (hc:(st (i+1)).2.get b≠(st i).2.get b\/(st i).2.next<=b) (hlt:b<(st (i+1)).2.next) (hl:∀ m,i<m->m<ops.size->S m->¬ Chg st m b) :
 hcont st (λx=>S x\/x=i) ops.size b=(st (i+1)).2.get b:=
 (zdV hn ops.size).2 ⟨hlt,hc.symm⟩ hi hl
include s hl0 inv hi hn hp in
theorem zql {o:Oper} (ho:ops.toList[i]?=some o) (hd:∀ d,o.dst=some d->d<tmps.size) (hw:Region.wanted o (yielded ops tmps)=true) (hs:zdD o.op=true)
 (hex:ex i=true) {h':za} (ha:aop T (st i).1.op { (st i).2 with wm:=(st i).2.next } o.op=some (.val (vl i) h'))
 (hft:ft i=foot (st i).1.op o) (e:(st (i+1)).2={ h' with wm:=min (st i).2.wm h'.wm }) :
 Goes P base ops n st vl ρ0 w0 S i tmps w fn kind rnd ds is k cs:=by
 have hoi:ops[i]?=some o:=by simpa using ho
 have egt:∀ b,(st (i+1)).2.get b=h'.get b:=λb=>by rw [e]; rfl
 have enx:(st (i+1)).2.next=h'.next:=by rw [e]
 have hat:∀ b,b∈(foot (st i).1.op o).rd\/b∈(foot (st i).1.op o).wr->(∃ l,ρ b=some l)/\b<(st i).2.next/\hcont st S ops.size b=(st i).2.get b/\∀ m,i<m->m<ops.size->S m->¬ Chg st m b:=by
  intro b hb;obtain ⟨⟨l,hl⟩,hlt⟩:=ztM s inv hi hn hp ho hb;refine ⟨⟨l,hl⟩,hlt,zrh s hl0 inv hi hn hp hex hl hlt (λc=>?_)⟩;rw [hft] at c;rcases hb with hb | hb
  . exact c.rd hb
  . exact c.wr hb
 obtain ⟨h2',g1,g2⟩:=zm0 (h2:={ hS with next:=(st i).2.next,wm:=(st i).2.next }) ha rfl (λb hb=>by
  obtain ⟨⟨l,hl⟩,hlt,hc,_⟩:=hat b hb;show hS.get b=(st i).2.get b;rw [inv.cont b l hl,hc])
 rw [zrf (ev':=opF (fcont ops.toList st vl S ops.size)) (λx hx=>zio s inv hi hn hp ho hx)] at g1;have hH:H0 base ρ { hS with next:=(st i).2.next,wm:=(st i).2.next } w:=inv.heap.congr (λ_ _ _=>rfl);obtain ⟨nx,v',w',ρ',q1,q2,q3,q4,q5⟩:=zq8 s.ok (o:=o) hH (λhne=>by
  have hne:h2'.next≠(st i).2.next:=hne;refine zji s hl0 inv hi hn (b:=(st i).2.next) (Nat.le_refl _) ?_;have a1:h2'.next=h'.next:=g2.1;have a2:h'.next=(st i).2.next\/h'.next=(st i).2.next+1:=g2.2.1;omega) (λx=>zom inv.frame x) g1
 have hnx:h2'.next=(st (i+1)).2.next:=by rw [enx]; exact g2.1
 refine zrj s hl0 inv hi hn hp fn kind rnd ds is k cs ho hd (ρs:=ρ) (ρ':=ρ') (g:={ hS with next:=(st i).2.next,wm:=(st i).2.next }) (g':=h2') (.refl _) (λ_ _ _=>rfl) q5 q4 q3 rfl hnx ?_ ?_ ?_ ?_
 . intro b l hb;have hbd:(∃ l,ρ b=some l)\/((st i).2.next<=b/\b<(st (i+1)).2.next):=by
    rcases q5.dom b l hb with z | ⟨z1,z2⟩
    . exact .inl ⟨l,z⟩
    . exact .inr ⟨z1,by rw [← hnx]; exact z2⟩
   rcases g2.2.2 b with ⟨z1,z2,z3⟩ | ⟨z1,z2⟩
   . have hnr:¬ ((st i).2.next<=b/\b<(st (i+1)).2.next):=by
      rintro ⟨y1,y2⟩
      rw [enx] at y2;have:=g2.2.1;simp only at z3 this;omega
     have hnc:¬ Chg st i b:=by
      rintro ⟨c1,c2⟩
      rcases c2 with c2 | c2
      . exact hnr ⟨c2,c1⟩
      . exact c2 ((egt b).trans z1)
     obtain ⟨l1,hl1⟩:=hbd.resolve_right hnr;rw [z2,(zdV hn ops.size).1 hnc];exact inv.cont b l1 hl1
   . rw [z1,← egt b];rcases z2 with z2 | ⟨z2,z3⟩
     . obtain ⟨⟨l1,hl1⟩,hlt,hc,hlat⟩:=hat b (.inr z2);by_cases hch:Chg st i b
       . exact ((zdV hn ops.size).2 hch hi hlat).symm
       . rw [(zdV hn ops.size).1 hch,hc];have hlt2:b<(st (i+1)).2.next:=Nat.lt_of_lt_of_le hlt (s.mono1 hi);by_cases q:(st (i+1)).2.get b=(st i).2.get b
         . exact q
         . exact absurd ⟨hlt2,.inr q⟩ hch
     . simp only at z2 z3;have h1:(st i).2.next<=b:=by omega
       have h2:b<(st (i+1)).2.next:=by omega
       exact (zpj hi hn (.inr h1) h2 (zm4 s hl0 inv hi hn h1 h2)).symm
 . intro b l hb hb';rw [q5.ext b l hb] at hb'; cases hb'
 . intro b hlt hr;rw [egt];rcases g2.2.2 b with ⟨z1,z2,z3⟩ | ⟨z1,z2⟩
   . exact z1
   . rcases z2 with z2 | ⟨z2,z3⟩
     . obtain ⟨⟨l1,hl1⟩,_⟩:=hat b (.inr z2);rw [hr] at hl1; cases hl1
     . simp only at z2; omega
 . exact .one (zf5 hoi hw hs q1 q2)
include s hl0 inv hi hn hp in
theorem zrk {o:Oper} (ho:ops.toList[i]?=some o) (hd:∀ d,o.dst=some d->d<tmps.size) (hw:Region.wanted o (yielded ops tmps)=true) (hs:zdD o.op=true)
    (hex:ex i=true) {f:ze} {as:List ze} {h':za} (ha:aop T (st i).1.op { (st i).2 with wm:=(st i).2.next } o.op=some (.call f as)) (hcl:call f as { (st i).2 with wm:=(st i).2.next }=some (.ret (vl i),h'))
    (hft:(ft i).rall=true) (e:(st (i+1)).2={ h' with wm:=min (st i).2.wm h'.wm }) :
    Goes P base ops n st vl ρ0 w0 S i tmps w fn kind rnd ds is k cs:=by
  have hoi:ops[i]?=some o:=by simpa using ho
  have egt:∀ b,(st (i+1)).2.get b=h'.get b:=λb=>by rw [e]; rfl
  have enx:(st (i+1)).2.next=h'.next:=by rw [e]
  obtain ⟨ρi,ti,wi,r1,r2,r3⟩:=s.run i (by omega);have hat:∀ b l,inter ρ ρi b=some l->hcont st S ops.size b=(st i).2.get b/\∀ m,i<m->m<ops.size->S m->¬ Chg st m b:=by
    intro b l hb;obtain ⟨h1,li,h2⟩:=zdW hb;refine zrh s hl0 inv hi hn hp hex h1 (r3.lt b li h2) (λc=>?_);have:=c.rall;rw [hft] at this; cases this
  have hget:∀ b l,inter ρ ρi b=some l->(st i).2.get b=hS.get b:=λb l hb=>by
    rw [inv.cont b l (zdW hb).1,(hat b l hb).1]
  have hH:zeb base (inter ρ ρi) { (st i).2 with wm:=(st i).2.next } w:=by
    refine ⟨⟨?_, ?_, ?_,inv.heap.base⟩, ?_⟩
    · intro b l hb; exact inv.heap.clt b l (zdW hb).1
    · intro b l hb;obtain ⟨h1,li,h2⟩:=zdW hb;have g1:=inv.heap.blk b l h1;rw [← hget b l hb] at g1;exact g1.inter (r3.blk b li h2)
    · intro b b' l l' hb hb' hne ho ha;refine inv.heap.inj b b' l l' (zdW hb).1 (zdW hb').1 hne ?_ ?_
      · unfold Owns at ho ⊢; rw [← hget b l hb]; exact ho
      · unfold Alive at ha ⊢; rw [← hget b' l' hb']; exact ha
    · intro b l hb;obtain ⟨h1,li,h2⟩:=zdW hb;exact r3.lt b li h2
  have hop:∀ x∈o.op.operands.toList,zaa (inter ρ ρi) ((st i).1.op x) (evT tmps x):=by
    intro x hx;have h1:=zom inv.frame x;rw [← zio s inv hi hn hp ho hx] at h1;exact h1.inter (zhF r2 x)
  obtain ⟨c,fo,hopc,hcal,rfl,rfl⟩:=zcH ha;have hfo:fo∈o.op.operands.toList:=by rw [hopc]; simp [Op.operands,Call.operands,hcal]
  have hargs:zcd (inter ρ ρi) (c.args.toList.map (st i).1.op) (c.args.map (evT tmps)).toList:=by
    refine ⟨by simp,λj v v' hv hv'=>?_⟩;rw [Array.toList_map] at hv';rw [List.getElem?_map] at hv hv';cases hx:c.args.toList[j]? with
    | none=>rw [hx] at hv; cases hv
    | some x=>
      rw [hx] at hv hv';cases hv; cases hv';refine hop x ?_;rw [hopc];simp only [Op.operands,Call.operands,Array.toList_append,List.mem_append];exact .inr (List.mem_of_getElem? hx)
  obtain ⟨nx,fs,h1,h2,h3⟩:=s.hc _ _ _ _ _ hcl (inter ρ ρi) w (evT tmps fo) (c.args.map (evT tmps)) (hop fo hfo) hargs hH;have hrun:(execOp (evT tmps) o).run P w=.ok nx w:=by
    unfold execOp;rw [hopc];simp only [resolve,hcal];exact h1
  have hst:=zk6 (fn:=fn) (kind:=kind) (rnd:=rnd) (ds:=ds) (k:=k) (cs:=cs) (is:=is) hoi hw hs hrun h2;obtain ⟨r',w',ρ',q1,q2,q3,q4⟩:=h3 (fat fn kind rnd tmps ds (.inRegion ops (i::is)::k)) cs;cases r' with
  | pan _=>exact q1.elim
  | ret v'=>
    have hfin:(ztp.ret v').frame (fat fn kind rnd tmps ds (.inRegion ops (i::is)::k))=fat fn kind rnd (zgl tmps o.dst v') ds (.inRegion ops is::k):=by
      simp only [ztp.frame];rw [zfK,hoi]; rfl
    have hsteps:=Steps.head hst q4;rw [hfin] at hsteps;have nr:∀ b,ρ' b=none->inter ρ ρi b=none:=by
      intro b hb;cases z:inter ρ ρi b with
      | none=>rfl
      | some l=>rw [q3.ext b l z] at hb; cases hb
    have hj:∀ b,b<(st i).2.next->inter ρ ρi b=none->(st (i+1)).2.get b=(st i).2.get b:=λb hlt hr=>by
      rw [egt]; exact q3.junk b hlt hr
    refine zrj s hl0 inv hi hn hp fn kind rnd ds is k cs ho hd (ρs:=inter ρ ρi) (ρ':=ρ') (g:={ (st i).2 with wm:=(st i).2.next }) (g':=h') (λb l hb=>(zdW hb).1) hget q3 q2.toH0 q1 rfl enx.symm ?_ ?_ ?_ hsteps
    · intro b l hb;rw [← egt];rcases q3.dom b l hb with z | ⟨z1,z2⟩
      · obtain ⟨hc,hlat⟩:=hat b l z;have hlt:=hH.lt b l z;have hlt:b<(st i).2.next:=hlt;by_cases hch:Chg st i b
        · exact ((zdV hn ops.size).2 hch hi hlat).symm
        · rw [(zdV hn ops.size).1 hch,hc];have hlt2:b<(st (i+1)).2.next:=Nat.lt_of_lt_of_le hlt (s.mono1 hi);by_cases q:(st (i+1)).2.get b=(st i).2.get b
          · exact q
          · exact absurd ⟨hlt2,.inr q⟩ hch
      · have h1:(st i).2.next<=b:=z1;have h2:b<(st (i+1)).2.next:=by rw [enx]; exact z2
        exact (zpj hi hn (.inr h1) h2 (zm4 s hl0 inv hi hn h1 h2)).symm
    · rintro b l hb hb' ⟨c1,c2⟩
      by_cases hlt:b<(st i).2.next
      · exact (c2.resolve_left (by omega)) (hj b hlt (nr b hb'))
      · rw [zji s hl0 inv hi hn (by omega) c1] at hb; cases hb
    · intro b hlt hr;refine hj b hlt ?_;cases z:inter ρ ρi b with
      | none=>rfl
      | some l=>rw [(zdW z).1] at hr; cases hr
include s hl0 inv hi hn hp in
theorem goes:Goes P base ops n st vl ρ0 w0 S i tmps w fn kind rnd ds is k cs:=by
 have hol:ops.toList[i]?=some ops[i]:=by simp [hi]
 have hmem:ops[i]∈ops.toList:=List.mem_of_getElem? hol;obtain ⟨hdst,hsv⟩:=s.hops _ hmem;have hall:∀ o∈ops.toList,∀ d,o.dst=some d->d<tmps.size:=λo' ho' d hd'=>by rw [inv.size]; exact (s.hops o' ho').1 d hd'
 have hlk:∀ d∈looks ops.toList ops[i],zaa ρ ((st i).1.ev d) (tmps.getD d undef):=λd hd=>by
  rw [← zrg s inv hi hn hp hol hd]; exact inv.frame d
 rcases s.tr.step i _ (Nat.zero_le _) hol with ⟨_,hw,hv,e⟩ | ⟨hex,hw,h',hst,hft,e⟩
 . exact zri s inv hi hn hp fn kind rnd ds is k cs hol (hall _ hmem) (zld hlk hall hw) hv (by rw [e])
 . have hwt:=zld hlk hall hw;unfold astep at hst;split at hst
   . rename_i v h2 ha;cases hst;obtain ⟨f1,f2⟩:=zlN ha;exact zql s hl0 inv hi hn hp fn kind rnd ds is k cs hol (hall _ hmem) hwt hsv hex ha (by rw [hft]; unfold zfg; rw [f1]; rfl) (by rw [e])
   . rename_i f as ha;exact zrk s hl0 inv hi hn hp fn kind rnd ds is k cs hol (hall _ hmem) hwt hsv hex ha hst (by rw [hft,zhK ha]; rfl) (by rw [e])
   . split at hst<;>cases hst
include s hl0 in
theorem ztN {l:List Nat} (hs:Sched ops S l):∀ {ρ:Emb} {tmps:Array Value} {w:World} {hS:za},Inv base ops n st vl ρ0 w0 S ρ tmps w hS ->
    ∃ ρ2 tmps2 w2 h2,Inv base ops n st vl ρ0 w0 (λi=>i<ops.size) ρ2 tmps2 w2 h2 /\
      Steps P (lone (fat fn kind rnd tmps ds (.inRegion ops l::k)) cs w) (lone (fat fn kind rnd tmps2 ds (.inRegion ops []::k)) cs w2):=by
  induction hs with
  | nil S h=>
    intro ρ tmps w hS inv;have:S=(λi=>i<ops.size):=funext λx=>propext ⟨inv.lt x,h x⟩;subst this;exact ⟨ρ,tmps,w,hS,inv,.refl _ _⟩
  | cons S i l hi hn hp _ ih=>
    intro ρ tmps w hS inv;obtain ⟨ρ1,t1,w1,h1,i1,s1⟩:=goes s hl0 inv hi hn hp fn kind rnd ds l k cs;obtain ⟨ρ2,t2,w2,h2,i2,s2⟩:=ih i1;exact ⟨ρ2,t2,w2,h2,i2,s1.trans s2⟩
end
theorem zwi {T:Tab} {P:Program} {base:Nat} (ok:T.Ok P):zvz T P base:=by
 intro call hc hk ops n hops hedge hslots fr h fr' h' hl ρ w ds rnd tmps t pre fn kind k cs;obtain ⟨st,vl,ft,ex,s0,tr,sN⟩:=zhj ops.toList 0 [] fr h fr' h' (by simp) hl;simp only [Nat.zero_add,Array.length_toList] at sN;have e1:(st 0).1=fr:=by rw [s0]
 have e2:(st 0).2=h:=by rw [s0]
 have s:Setup T P base call ops n st vl ft ex:=⟨ok,hc,hk,hops,hslots,tr,zpi ok hc hops tr pre.size (by rw [e1]; exact pre.frame) (by rw [e2]; exact pre.heap)⟩;have hf0:∀ N t,fcont ops.toList st vl (λ_=>False) N t=fr.ev t:=by
  intro N t;induction N with
  | zero=>simp only [fcont]; rw [e1]
  | succ N ih=>simp only [fcont]; rw [if_neg (λq=>q.1)]; exact ih
 have hh0:∀ N b,hcont st (λ_=>False) N b=h.get b:=by
  intro N b;induction N with
  | zero=>simp only [hcont]; rw [e2]
  | succ N ih=>simp only [hcont]; rw [if_neg (λq=>q.1)]; exact ih
 have hl0:∀ b l,ρ b=some l->b<(st 0).2.next:=by rw [e2]; exact pre.heap.lt
 have inv0:Inv base ops n st vl ρ w (λ_=>False) ρ tmps w h:=by
  refine ⟨λi hi=>hi.elim,λi hi=>hi.elim,pre.size,λt=>?_,λb l _=>?_,pre.heap.toH0, ?_,λb l hb=>.inl hb,λm b hm=>hm.elim⟩
  . rw [hf0]; exact pre.frame t
  . rw [hh0]
  . rw [e2]; exact .refl _ _ _
 obtain ⟨ρ2,t2,w2,h2,inv,hsteps⟩:=ztN s hl0 fn kind rnd ds k cs (zkI hedge t) inv0;have ehc:∀ b l,ρ2 b=some l->h2.get b=(st ops.size).2.get b:=by
  intro b l hb;rw [inv.cont b l hb];refine zin ops.size ?_ (λm hm=>s.mono1 hm) (λm hm _=>hm);rcases inv.dom b l hb with q | ⟨m,hm,q1,q2⟩
  . exact Nat.lt_of_lt_of_le (hl0 b l q) (s.mono (Nat.zero_le _) (Nat.le_refl _))
  . exact Nat.lt_of_lt_of_le q2 (s.mono (by omega) (Nat.le_refl _))
 have efr:∀ t,fcont ops.toList st vl (λi=>i<ops.size) ops.size t=(st ops.size).1.ev t:=λt=>zim ops.size (λm hm=>s.ev hm) (λm hm _=>hm);have eN1:(st ops.size).1=fr':=by rw [sN]
 have eN2:(st ops.size).2=h':=by rw [sN]
 have hH:H0 base ρ2 h' w2:=by rw [← eN2]; exact inv.heap.congr (λb l hb=>(ehc b l hb).symm)
 have hC:Core ρ h w ρ2 h' w2:=by
  have:=inv.core.congr (g:=h) (g':=h') (λb l _=>by rw [e2]) (λb l hb=>by rw [← eN2]; exact (ehc b l hb).symm);exact this
 have hT:Trans ρ h w ρ2 h' w2:=by
  refine ⟨hC.ext,hC.size,hC.frame,hC.own,hC.os,hC.tape,hC.output,hC.loops, ?_, ?_, ?_⟩
  . rw [← e2,← eN2]; exact s.mono (Nat.zero_le _) (Nat.le_refl _)
  . intro b l hb;rcases inv.dom b l hb with q | ⟨m,hm,q1,q2⟩
    . exact .inl q
    . right;rw [← e2,← eN2];have:=s.mono (m:=0) (k:=m) (Nat.zero_le _) (by omega);have:=s.mono (m:=m+1) (k:=ops.size) (by omega) (Nat.le_refl _);omega
  . intro b hb hr;have hnone:ρ2 b=none:=by
     cases z:ρ2 b with
     | none=>rfl
     | some l=>
      rcases inv.dom b l z with q | ⟨m,hm,q1,q2⟩
      . rw [hr] at q; cases q
      . have:=s.mono (m:=0) (k:=m) (Nat.zero_le _) (by omega);rw [e2] at this;omega
    have all:∀ m,m<=ops.size->(st m).2.get b=h.get b:=by
     intro m;induction m with
     | zero=>intro _; rw [e2]
     | succ m ih=>
      intro hm;have hle:=s.mono (m:=0) (k:=m) (Nat.zero_le _) (by omega);rw [e2] at hle;rw [inv.junk m b (by omega) (by omega) hnone];exact ih (by omega)
    rw [← eN2];exact all ops.size (Nat.le_refl _)
 refine ⟨t2,w2,ρ2,inv.size,λt=>?_,hH.toH hT pre.heap,hT,hsteps.trans (.one zeX)⟩;rw [← eN1,← efr];exact inv.frame t
end Go.Ai
/- An abstract interpreter for the model's code: sound,and steady in its fuel. -/
namespace Go.Ai
open Option renaming bind->Zb,bind_some->Zs
theorem zon {T:Tab} {P:Program} {base:Nat} (ok:T.Ok P) (n:Nat):RunOk P base (aexec T n):=
 zph ok (zwi ok) zjK zjJ n
theorem zlP {T:Tab} {P:Program} {base:Nat} (ok:T.Ok P) {n:Nat} {f:FuncId} {args:List ze} {h:za} {r:zg3} {h':za} (hl:zdH T (aexec T n) f args h=some (r,h')) {ρ:Emb} {w:World} {args':Array Value}
 (ha:zcd ρ args args'.toList) (hr:zeb base ρ h w):Calls P f args' w (zqi base ρ h w r h'):=
 (zwh ok (zon ok n) hl ha hr).2
theorem Tab.Ok.prim {T : Tab} {P : Program} (ok : T.Ok P) {g : FuncId} {p : List ze → Option ze} (h1 : ∃ F, P.funcs[g]? = some F ∧ (F.name == "runtime.NumGoroutine") = false ∧ F.body.isSome = true)
    (h2:∀ xs v,p xs=some v->∀ ρ (xs':Array Value) w,zcd ρ xs xs'.toList->Calls P g xs' w fun e w'=>∃ v',e=.returned v'∧zaa ρ v v'∧w'=w) :
    Tab.Ok { T with consts:=T.consts.set g p } P:=by
  refine ⟨ok.types,ok.funcs,ok.mixed,fun f q hq=>?_,ok.defs⟩;have hq:(T.consts.set g p).get f=some q:=hq;rw [Tr.get_set] at hq;by_cases e:f=g
  · rw [if_pos e] at hq;cases hq;subst e;refine ⟨h1,fun xs v hv ρ xs' w hx=>(h2 xs v hv ρ xs' w hx).mono fun e w' he=>?_⟩;obtain ⟨v',a1,a2,rfl⟩:=he;exact ⟨v',a1,a2,Nat.le_refl _,fun _ _=>rfl,rfl,rfl,rfl⟩
  · rw [if_neg e] at hq;exact ok.consts f q hq
theorem Tab.Ok.defd {T:Tab} {P:Program} (ok:T.Ok P) {g:FuncId} {D:zbO} (hD:zq0 P g D):Tab.Ok { T with defs:=T.defs.set g D } P:=by
 refine ⟨ok.types,ok.funcs,ok.mixed,ok.consts,λf E hE=>?_⟩;have hE:(T.defs.set g D).get f=some E:=hE;rw [Tr.get_set] at hE;by_cases e:f=g
 . rw [if_pos e] at hE;cases hE;subst e;exact hD
 . rw [if_neg e] at hE;exact ok.defs f E hE
def Runner.Le (a b:Runner):Prop:=∀ c fr h r,a c fr h=some r->b c fr h=some r
def Caller.Le (a b:Caller):Prop:=∀ f as h r,a f as h=some r->b f as h=some r
section
variable {T:Tab}
theorem zlQ {a b:Caller} (h:Caller.Le a b) {ev:Operand->ze} {o:Op} {hp:za} {r:zg3×za} (hl:astep T a ev o hp=some r):astep T b ev o hp=some r:=by
 unfold astep at hl ⊢;split at hl
 . rename_i e; exact hl
 . rename_i e; exact h _ _ _ _ hl
 . exact hl
theorem zjN {a b:Caller} (h:Caller.Le a b) {ops:List Oper}:∀ (rest:List Oper) (fr:zf) (hp:za) (r:zab×zf×za),aops T a ops rest fr hp=some r->aops T b ops rest fr hp=some r
 | [],_,_,_,hl=>hl
 | o::rest,fr,hp,r,hl=>by
  simp only [aops] at hl ⊢;split at hl
  . split at hl
    . rename_i e;rw [zlQ h e];exact zjN h rest _ _ _ hl
    . rename_i e;rw [zlQ h e];exact hl
    . cases hl
  . exact zjN h rest _ _ _ hl
  . cases hl
theorem zhL {a b:Caller} (h:Caller.Le a b) {ops:List Oper}:∀ (rest:List Oper) (i:Nat) (done:List (Nat×Foot)) (fr:zf) (hp:za) (r:zf×za),adraw T a ops rest i done fr hp=some r->adraw T b ops rest i done fr hp=some r
 | [],_,_,_,_,_,hl=>hl
 | o::rest,i,done,fr,hp,r,hl=>by
  simp only [adraw] at hl ⊢;split at hl
  . split at hl
    . rename_i e;rw [zlQ h e];cases hf:zca ops i _ done with
      | false=>rw [hf] at hl; cases hl
      | true=>
       rw [hf] at hl;simp only [cond_true] at hl ⊢;simp only [hf,cond_true];exact zhL h rest _ _ _ _ _ hl
    . cases hl
  . exact zhL h rest _ _ _ _ _ hl
  . cases hl
theorem zhM {a b:Runner} (h:Runner.Le a b):∀ (cs:List Code) (fr:zf) (hp:za) (r:zab×zf×za),aseqs a cs fr hp=some r->aseqs b cs fr hp=some r
 | [],_,_,_,hl=>hl
 | c::cs,fr,hp,r,hl=>by
  simp only [aseqs] at hl ⊢;cases e:a c fr hp with
  | none=>rw [e] at hl; cases hl
  | some q=>
   obtain ⟨ex,fr',h'⟩:=q;rw [h _ _ _ _ e];rw [e] at hl;cases ex<;>first | exact hl | exact zhM h cs _ _ _ hl
theorem zhN {a b:Runner} (h:Runner.Le a b) {D:zbO} {x v:ze} {hp h':za} (hl:aclose a D x v hp=some h'):aclose b D x v hp=some h':=by
 unfold aclose at hl ⊢;split at hl
 . rename_i g first captured
   cases hb:Nat.beq g D.fn&&Nat.ble (first++captured).length D.cn with
   | false=>rw [hb] at hl; cases hl
   | true=>
    rw [hb] at hl;simp only [hb,cond_true] at hl ⊢;split at hl
    . rename_i e; cases hl; simp only [h _ _ _ _ e]
    . cases hl
 . cases hl
theorem zrl {a b:Runner} (h:Runner.Le a b) {D:zbO} {as:List ze} {hp:za} {r:zg3×za} (hl:zgk T a D as hp=some r):zgk T b D as hp=some r:=by
 obtain ⟨r0,h0⟩:=r;unfold zgk at hl ⊢;cases hb:Nat.blt D.ntmps as.length with
 | true=>rw [hb] at hl; cases hl
 | false=>
  rw [hb] at hl;simp only [cond_false] at hl ⊢;split at hl
  . rename_i e; simp only [zhM h _ _ _ _ e]; exact hl
  . rename_i e;simp only [zhM h _ _ _ _ e];split at hl
    . rename_i e1;try simp only [e1]
      split at hl
      . rename_i e2;simp only [h _ _ _ _ e2];obtain ⟨h3,_⟩:=zfL hl;rw [h3] at hl;rw [zhN h h3]; exact hl
      . rename_i e2;simp only [h _ _ _ _ e2];obtain ⟨h3,_⟩:=zfL hl;rw [h3] at hl;rw [zhN h h3]; exact hl
      . cases hl
    . cases hl
  . cases hl
theorem zqm {a b:Runner} (h:Runner.Le a b) {f:FuncId} {as:List ze} {hp:za} {r:zg3×za} (hl:zdH T a f as hp=some r):zdH T b f as hp=some r:=by
 unfold zdH at hl ⊢;split at hl
 . rename_i F hF;cases hb:Nat.blt F.ntmps as.length with
   | true=>rw [hb] at hl; cases hl
   | false=>
    rw [hb] at hl;simp only [cond_false] at hl ⊢;split at hl
    . rename_i c hc;split at hl<;>first | (rename_i e; simp only [h _ _ _ _ e]; exact hl) | cases hl
    . cases hl
 . split at hl
   . exact zrl h hl
   . cases hl
theorem zrm {a b:Runner} (h:Runner.Le a b) {l:Nat} {as:List ze} {hp:za} {r:zg3×za} (hl:around a l as hp=some r):around b l as hp=some r:=by
 unfold around at hl ⊢;split at hl
 . rename_i L hL;split at hl
   . rename_i hc;rw [if_pos hc];split at hl
     . rename_i e;simp only [h _ _ _ _ e];split at hl
       . rename_i L1 hL1;split at hl
         . rename_i hr;rw [if_pos hr];split at hl<;>first | (rename_i e; simp only [h _ _ _ _ e]; exact hl) | cases hl
         . cases hl
       . cases hl
     . cases hl
   . cases hl
 . cases hl
theorem zeY {a b:Runner} (h:Runner.Le a b):Caller.Le (acall T a) (acall T b):=by
 intro f as hp r hl;unfold acall at hl ⊢;split at hl
 . split at hl
   . exact hl
   . exact zqm h hl
 . exact zrm h hl
 . cases hl
theorem zm6:∀ n,Runner.Le (aexec T n) (aexec T (n+1))
 | 0=>by intro c fr h r hl; simp [aexec] at hl
 | n+1=>by
  have ih:=zm6 n;have ihc:=zeY (T:=T) ih;intro c fr h r hl;cases c with
  | skip=>exact hl
  | label l=>exact hl
  | region id ops draw=>
   rw [aexec] at hl ⊢;cases draw with
   | true=>
    simp only [if_true] at hl ⊢;split at hl
    ·rename_i e;simp only [zhL ihc _ _ _ _ _ _ e];exact hl
    ·cases hl
   | false=>
    simp only [Bool.false_eq_true,if_false] at hl ⊢;exact zjN ihc _ _ _ _ hl
  | seq x y=>
   rw [aexec] at hl ⊢;cases e:aexec T n x fr h with
   | none=>rw [e] at hl; cases hl
   | some q=>
    obtain ⟨ex,fr',h'⟩:=q;rw [ih _ _ _ _ e];rw [e] at hl;cases ex<;>first | exact hl | exact ih _ _ _ _ hl
  | cond c x y=>
   rw [aexec] at hl ⊢;split at hl
   ·rename_i t e;exact ih _ _ _ _ hl
   ·cases hl
  | block id c=>
   rw [aexec] at hl ⊢;cases e:aexec T n c fr h with
   | none=>rw [e] at hl; cases hl
   | some q=>
    rw [ih _ _ _ _ e];rw [e] at hl;exact hl
  | loop c=>
   rw [aexec] at hl ⊢;cases e:aexec T n c fr h with
   | none=>rw [e] at hl; cases hl
   | some q=>
    obtain ⟨ex,fr',h'⟩:=q;rw [ih _ _ _ _ e];rw [e] at hl;cases ex<;>first | exact hl | exact ih _ _ _ _ hl
  | rangeFunc f params assign body=>
   rw [aexec] at hl ⊢;split at hl<;>first | (rename_i e; simp only [ihc _ _ _ _ e]; exact hl) | cases hl
  | exit id=>exact hl
  | scope c=>
   rw [aexec] at hl ⊢;cases e:aexec T n c fr h with
   | none=>rw [e] at hl; cases hl
   | some q=>
    rw [ih _ _ _ _ e];rw [e] at hl;exact hl
  | goto l=>exact hl
  | ret=>exact hl
  | refuse _=>simp [aexec] at hl
theorem zbx {n m:Nat} (h:n<=m):Runner.Le (aexec T n) (aexec T m):=by
  induction m with
  | zero=>
      have:n=0:=by omega
      subst this; exact λ_ _ _ _ q=>q
  | succ m ih=>
    by_cases e:n=m+1
    · subst e; exact λ_ _ _ _ q=>q
    · exact λc fr hp r q=>zm6 m c fr hp r (ih (by omega) c fr hp r q)
end
end Go.Ai
/- An abstract interpreter for the model's code: its runs,told by what they come to. -/
namespace Go.Ai
open Option renaming bind->Zb,bind_some->Zs
section
variable (T:Tab)
def Run (c:Code) (fr:zf) (h:za) (Q:zab->zf->za->Prop):Prop:=∃ n e fr' h',aexec T n c fr h=some (e,fr',h')/\Q e fr' h'
def Ops (ops rest:List Oper) (fr:zf) (h:za) (Q:zab->zf->za->Prop):Prop:=∃ n e fr' h',aops T (acall T (aexec T n)) ops rest fr h=some (e,fr',h')/\Q e fr' h'
def Draw (ops rest:List Oper) (i:Nat) (done:List (Nat×Foot)) (fr:zf) (h:za) (Q:zf->za->Prop):Prop:=∃ n fr' h',adraw T (acall T (aexec T n)) ops rest i done fr h=some (fr',h')/\Q fr' h'
def zja (f:ze) (vs:List ze) (h:za) (Q:zg3->za->Prop):Prop:=∃ n r h',acall T (aexec T n) f vs h=some (r,h')/\Q r h'
def ziq (g:FuncId) (vs:List ze) (h:za) (Q:zg3->za->Prop):Prop:=∃ n r h',zdH T (aexec T n) g vs h=some (r,h')/\Q r h'
variable {T}
variable {fr:zf} {h:za} {Q:zab->zf->za->Prop}
theorem Run.mono {c:Code} {Q Q':zab->zf->za->Prop} (r:Run T c fr h Q) (hq:∀ e fr' h',Q e fr' h'->Q' e fr' h'):Run T c fr h Q':=
 let ⟨n,e,fr',h',a,b⟩:=r; ⟨n,e,fr',h',a,hq _ _ _ b⟩
theorem zpk (q:Q .normal fr h):Run T .skip fr h Q:=⟨1,_,_,_,rfl,q⟩
theorem zrn {l:Nat} (q:Q .normal fr h):Run T (.label l) fr h Q:=⟨1,_,_,_,rfl,q⟩
theorem zpl {id:Nat} (q:Q (.exit id) fr h):Run T (.exit id) fr h Q:=⟨1,_,_,_,rfl,q⟩
theorem zwj (q:Q .ret fr h):Run T .ret fr h Q:=⟨1,_,_,_,rfl,q⟩
def zBd (T:Tab) (b:Code) (Q:zab->zf->za->Prop) (e:zab) (fr:zf) (h:za):Prop:=
 match e with
 | .normal=>Run T b fr h Q
 | e=>Q e fr h
theorem zwk {a b:Code} (r:Run T a fr h (zBd T b Q)):Run T (.seq a b) fr h Q:=by
 obtain ⟨n,e,fr',h',h1,h2⟩:=r;cases e with
 | normal=>
  obtain ⟨m,e2,fr2,hh2,h3,h4⟩:=h2;refine ⟨max n m+1,e2,fr2,hh2, ?_,h4⟩;rw [aexec,zbx (Nat.le_max_left n m) _ _ _ _ h1];exact zbx (Nat.le_max_right n m) _ _ _ _ h3
 | exit id=>exact ⟨n+1,_,_,_,by rw [aexec,h1],h2⟩
 | goto l=>exact ⟨n+1,_,_,_,by rw [aexec,h1],h2⟩
 | ret=>exact ⟨n+1,_,_,_,by rw [aexec,h1],h2⟩
 | pan v=>exact ⟨n+1,_,_,_,by rw [aexec,h1],h2⟩
theorem ztO {c:Operand} {a b:Code} {t:Bool} (hc:fr.op c=.bool t) (r:Run T (if t then a else b) fr h Q):Run T (.cond c a b) fr h Q:=by
 obtain ⟨n,e,fr',h',h1,h2⟩:=r;exact ⟨n+1,e,fr',h',by rw [aexec,hc]; exact h1,h2⟩
def zpm (id:Nat) (Q:zab->zf->za->Prop) (e:zab) (fr:zf) (h:za):Prop:=
 match e with
 | .exit id'=>if id'=id then Q .normal fr h else Q (.exit id') fr h
 | e=>Q e fr h
theorem zro {id:Nat} {c:Code} (r:Run T c fr h (zpm id Q)):Run T (.block id c) fr h Q:=by
 obtain ⟨n,e,fr',h',h1,h2⟩:=r;cases e with
 | exit id'=>
  by_cases q:id'=id
  . subst q;refine ⟨n+1,.normal,fr',h',by rw [aexec,h1]; simp,by simpa [zpm] using h2⟩
  . refine ⟨n+1,.exit id',fr',h',by rw [aexec,h1]; simp [q],by simpa [zpm,q] using h2⟩
 | normal=>exact ⟨n+1,_,_,_,by rw [aexec,h1],h2⟩
 | goto l=>exact ⟨n+1,_,_,_,by rw [aexec,h1],h2⟩
 | ret=>exact ⟨n+1,_,_,_,by rw [aexec,h1],h2⟩
 | pan v=>exact ⟨n+1,_,_,_,by rw [aexec,h1],h2⟩
theorem zrp {c:Code} (r:Run T c fr h Q) (hq:∀ l fr' h',¬ Q (.goto l) fr' h'):Run T (.scope c) fr h Q:=by
 obtain ⟨n,e,fr',h',h1,h2⟩:=r;cases e with
 | goto l=>exact absurd h2 (hq _ _ _)
 | normal=>exact ⟨n+1,_,_,_,by rw [aexec,h1],h2⟩
 | exit l=>exact ⟨n+1,_,_,_,by rw [aexec,h1],h2⟩
 | ret=>exact ⟨n+1,_,_,_,by rw [aexec,h1],h2⟩
 | pan v=>exact ⟨n+1,_,_,_,by rw [aexec,h1],h2⟩
theorem zir {id:Nat} {ops:Array Oper} (r:Ops T ops.toList ops.toList fr h Q):Run T (.region id ops false) fr h Q:=by
 obtain ⟨n,e,fr',h',h1,h2⟩:=r;exact ⟨n+1,e,fr',h',by rw [aexec]; exact h1,h2⟩
theorem ztP {id:Nat} {ops:Array Oper} (r:Draw T ops.toList ops.toList 0 [] fr h (Q .normal)):Run T (.region id ops true) fr h Q:=by
 obtain ⟨n,fr',h',h1,h2⟩:=r;exact ⟨n+1,.normal,fr',h',by rw [aexec]; simp [h1],h2⟩
theorem zwl {ops:List Oper} (q:Q .normal fr h):Ops T ops [] fr h Q:=⟨0,_,_,_,rfl,q⟩
theorem zlR {ops rest:List Oper} {o:Oper} {v:ze} {h':za} (hw:awanted ops fr o.guard=some true) (ha:aop T fr.op h o.op=some (.val v h')) (r:Ops T ops rest (putDst fr o.dst v) h' Q):Ops T ops (o::rest) fr h Q:=by
 obtain ⟨n,e,fr',h2,h3,h4⟩:=r;exact ⟨n,e,fr',h2,by simp only [aops,hw,astep,ha]; exact h3,h4⟩
theorem ztQ {ops rest:List Oper} {o:Oper} (hw:awanted ops fr o.guard=some false) (r:Ops T ops rest (putDst fr o.dst unit) h Q):Ops T ops (o::rest) fr h Q:=by
 obtain ⟨n,e,fr',h2,h3,h4⟩:=r;exact ⟨n,e,fr',h2,by simp only [aops,hw]; exact h3,h4⟩
theorem ztR {ops rest:List Oper} {o:Oper} {f:ze} {vs:List ze} (hw:awanted ops fr o.guard=some true) (ha:aop T fr.op h o.op=some (.call f vs))
 (r:zja T f vs h λr h'=>∃ v,r=.ret v/\Ops T ops rest (putDst fr o.dst v) h' Q):Ops T ops (o::rest) fr h Q:=by
 obtain ⟨n,r,h1,h2,v,rfl,m,e,fr',h3,h4,h5⟩:=r;refine ⟨max n m,e,fr',h3, ?_,h5⟩;have c1:=zeY (T:=T) (zbx (Nat.le_max_left n m)) _ _ _ _ h2;have c2:=zjN (T:=T) (zeY (zbx (Nat.le_max_right n m))) _ _ _ _ h4;simp only [aops,hw,astep,ha,c1];exact c2
theorem zrq {ops:List Oper} {j d:Nat} {want b:Bool} (hd:(ops[j]?).bind (λ(o:Oper)=>o.dst)=some d) (hv:fr.ev d=.bool b):awanted ops fr (some (j,want))=some (b==want):=by
 unfold awanted;simp only [hd,hv]
theorem zpn {ops:List Oper} {i:Nat} {done:List (Nat×Foot)} {Q:zf->za->Prop} (q:Q fr h):Draw T ops [] i done fr h Q:=⟨0,_,_,rfl,q⟩
theorem zm7 {ops rest:List Oper} {o:Oper} {i:Nat} {done:List (Nat×Foot)} {Q:zf->za->Prop} (hw:awanted ops fr o.guard=some false) (r:Draw T ops rest (i+1) done (putDst fr o.dst unit) h Q):Draw T ops (o::rest) i done fr h Q:=by
 obtain ⟨n,fr',h2,h3,h4⟩:=r;exact ⟨n,fr',h2,by simp only [adraw,hw]; exact h3,h4⟩
theorem ztS {ops rest:List Oper} {o:Oper} {i:Nat} {done:List (Nat×Foot)} {Q:zf->za->Prop} {v:ze} {h':za} {f:Foot} (hw:awanted ops fr o.guard=some true) (ha:aop T fr.op { h with wm:=h.next } o.op=some (.val v h'))
 (hf:foot fr.op o=f) (hr:f.rall=false) (hk:zca ops i f done=true) (r:Draw T ops rest (i+1) ((i,f)::done) (putDst fr o.dst v) { h' with wm:=min h.wm h'.wm } Q):Draw T ops (o::rest) i done fr h Q:=by
 obtain ⟨n,fr',h2,h3,h4⟩:=r;refine ⟨n,fr',h2, ?_,h4⟩;have e:zfg (foot fr.op o) h h'=f:=by rw [hf]; unfold zfg; rw [hr]; rfl
 simp only [adraw,hw,astep,ha,e,hk,cond_true];exact h3
end
end Go.Ai
/- An abstract interpreter for the model's code: an operation and the heap's low mark. -/
namespace Go.Ai
open Option renaming bind->Zb,bind_some->Zs
def lay (h:za) (x:Nat):za:={ h with wm:=x }
def Wm (h h1:za) (x:Nat) (h2:za):Prop:=∃ y,h1.wm=min h.wm y/\h2=lay h1 (min x y)
section
variable {T:Tab} {h h1:za} {x:Nat}
theorem Wm.refl:Wm h h x (lay h x):=⟨max h.wm x,by omega,by rw [Nat.min_eq_left (Nat.le_max_right ..)]⟩
theorem Wm.push (b:zfy):Wm h (h.push b) x ((lay h x).push b):=⟨max h.wm x,by simp only [za.push]; omega,by rw [Nat.min_eq_left (Nat.le_max_right ..)]; rfl⟩
theorem Wm.set (k:Nat) (b:zfy):Wm h (h.set k b) x ((lay h x).set k b):=⟨k,rfl,rfl⟩
theorem Wm.move (k:Nat) (a b:zfy):Wm h ((h.set k a).push b) x (((lay h x).set k a).push b):=⟨k,rfl,rfl⟩
theorem zlS (b:Nat):(lay h x).get b=h.get b:=rfl
theorem zlT:(lay h x).next=h.next:=rfl
theorem zrr {es n:Nat} {v:ze}:arow es n v (lay h x)=arow es n v h:=rfl
theorem zrs {t:TypeId} {a v:ze}:astore T t h a v=some h1->∃ h2,astore T t (lay h x) a v=some h2/\Wm h h1 x h2:=by
 unfold astore;simp only [zlS];repeat' split
 all_goals (intro hl; cases hl; try exact ⟨_,rfl,Wm.set ..⟩)
theorem zjO {elem:TypeId} {len n:Nat} {cap:Option Nat} {parts:List (Nat×ze)} {v:ze}:zcM T elem len cap n h parts=some (v,h1)->∃ h2,zcM T elem len cap n (lay h x) parts=some (v,h2)/\Wm h h1 x h2:=by
 unfold zcM;simp only [zlT];repeat' split
 all_goals (intro hl; cases hl; try exact ⟨_,rfl,Wm.push ..⟩)
theorem zhO {t:TypeId} {m k v:ze}:zbo T t m k v h=some h1->∃ h2,zbo T t m k v (lay h x)=some h2/\Wm h h1 x h2:=by
 unfold zbo;simp only [zlS];repeat' split
 all_goals (intro hl; cases hl; try exact ⟨_,rfl,Wm.set ..⟩)
theorem ztT {ts:Array TypeId} {d s v:ze}:acopy T ts d s h=some (v,h1)->∃ h2,acopy T ts d s (lay h x)=some (v,h2)/\Wm h h1 x h2:=by
 unfold acopy;simp only [zlS,zrr];repeat' split
 all_goals (intro hl; cases hl<;>first | exact ⟨_,rfl,Wm.refl⟩ | exact ⟨_,rfl,Wm.set ..⟩)
theorem zrt {st xt:TypeId} {s z v:ze}:azeros T st xt s z h=some (v,h1)->∃ h2,azeros T st xt s z (lay h x)=some (v,h2)/\Wm h h1 x h2:=by
 unfold azeros;simp only [zlT];repeat' split
 all_goals (intro hl; cases hl<;>exact ⟨_,rfl,Wm.push ..⟩)
theorem zqn {ts:Array TypeId} {s z v:ze}:aappend T ts s z h=some (v,h1)->∃ h2,aappend T ts s z (lay h x)=some (v,h2)/\Wm h h1 x h2:=by
 unfold aappend;simp only [zlS,zrr,zlT];repeat' split
 all_goals first | exact zrt | (intro hl; cases hl<;>first | exact ⟨_,rfl,Wm.refl⟩ | exact ⟨_,rfl,Wm.set ..⟩ | exact ⟨_,rfl,Wm.push ..⟩ | exact ⟨_,rfl,Wm.move ..⟩)
theorem zfN {y:Option ze} {v:ze} (e:zS h y=some (.val v h1)):∃ h2,zS (lay h x) y=some (.val v h2)/\Wm h h1 x h2:=by
 obtain ⟨rfl,rfl⟩:=zB e;exact ⟨_,rfl,Wm.refl⟩
theorem zys {ev:Operand->ze} {o:Op} {v:ze} (hl:aop T ev h o=some (.val v h1)):∃ h2,aop T ev (lay h x) o=some (.val v h2)/\Wm h h1 x h2:=by
 have pair:∀ {y y':Option (ze×za)},zfE y=some (.val v h1)->(y=some (v,h1)->∃ h2,y'=some (v,h2)/\Wm h h1 x h2)->∃ h2,zfE y'=some (.val v h2)/\Wm h h1 x h2:=by
  intro y y' e k;obtain ⟨h2,rfl,w⟩:=k (zbp e);exact ⟨h2,rfl,w⟩
 have heap:∀ {y y':Option za},zf1 y=some (.val v h1)->(y=some h1->∃ h2,y'=some h2/\Wm h h1 x h2)->∃ h2,zf1 y'=some (.val v h2)/\Wm h h1 x h2:=by
  intro y y' e k;obtain ⟨e1,rfl⟩:=zcl e;obtain ⟨h2,rfl,w⟩:=k e1;exact ⟨h2,rfl,w⟩
 cases o<;>simp only [aop] at hl ⊢<;>(try (cases hl; done))<;>(try exact zfN hl)
 case move=>cases hl; exact ⟨_,rfl,Wm.refl⟩
 case assign=>cases hl; exact ⟨_,rfl,Wm.refl⟩
 case pick=>revert hl; unfold zhC; split<;>intro hl<;>cases hl; exact ⟨_,rfl,Wm.refl⟩
 case alloc=>revert hl; unfold zfF; split<;>intro hl<;>cases hl; exact ⟨_,rfl,Wm.push ..⟩
 case box=>revert hl; unfold zjz; split<;>intro hl<;>cases hl; exact ⟨_,rfl,Wm.push ..⟩
 case buildSlice=>
  refine pair hl ?_;unfold zdG;repeat' split
  all_goals first | exact zjO | (intro q; cases q; done)
 case store=>exact heap hl zrs
 case nilCheck=>revert hl; unfold zdf; split<;>intro hl<;>cases hl<;>exact ⟨_,rfl,Wm.refl⟩
 case makeInterface=>revert hl; unfold zb3; split<;>intro hl<;>cases hl; exact ⟨_,rfl,Wm.refl⟩
 case makeFunc=>revert hl; unfold zct; split<;>intro hl<;>cases hl; exact ⟨_,rfl,Wm.refl⟩
 case makeMap=>revert hl; unfold zey; split<;>intro hl<;>cases hl; exact ⟨_,rfl,Wm.push ..⟩
 case makeSlice=>
  refine pair hl ?_;unfold zef;repeat' split
  all_goals first | exact zjO | (intro q; cases q; done)
 case mapUpdate=>exact heap hl zhO
 case insert=>exact heap hl zhO
 case extract=>
  revert hl; unfold zff;split
  . intro hl; exact zfN hl
  . intro hl; cases hl
 case call c=>
  revert hl; unfold zcu;split
  . unfold abuiltin;split
    . split
      . intro hl; exact zfN hl
      . intro hl; cases hl
    . split
      . intro hl; exact zfN hl
      . intro hl; cases hl
    . intro hl; exact pair hl zqn
    . intro hl; exact pair hl ztT
    . intro hl; exact zfN hl
    . intro hl; exact zfN hl
    . intro hl; cases hl
  . intro hl; cases hl
  . intro hl; cases hl
structure Quiet (h h':za):Prop where
 next:h.next<=h'.next
 same:∀ b,b<h.next->h'.get b=h.get b
 wm:min h.wm h.next<=h'.wm
 ok:h.wm<=h.next->h'.wm<=h'.next
theorem Quiet.refl (h:za):Quiet h h:=⟨Nat.le_refl _,λ_ _=>rfl,Nat.min_le_left _ _,id⟩
theorem Quiet.set {h0 h:za} (q:Quiet h0 h) (b:Nat) (x:zfy) (hb:h0.next<=b):Quiet h0 (h.set b x):=by
 refine ⟨q.next,λk hk=>?_, ?_,λk=>?_⟩
 . rw [za.get_set,if_neg (by omega)]; exact q.same k hk
 . show min h0.wm h0.next<=min h.wm b;have:=q.wm; omega
 . have:=q.ok k;show min h.wm b<=h.next;omega
theorem Quiet.get {h h':za} (q:Quiet h h') {b:Nat} {x:zfy} (hg:h.get b=some x) (hb:b<h.next):h'.get b=some x:=by rw [q.same b hb]; exact hg
theorem zru {ops rest:List Oper} {o:Oper} {i:Nat} {done:List (Nat×Foot)} {fr:zf} {Q:zf->za->Prop} {v:ze} {f:Foot} (hw:awanted ops fr o.guard=some true) (ha:aop T fr.op h o.op=some (.val v h1)) (hwm:h.wm<=h.next)
 (hf:foot fr.op o=f) (hk:zca ops i f done=true) (r:Draw T ops rest (i+1) ((i,f)::done) (putDst fr o.dst v) h1 Q):Draw T ops (o::rest) i done fr h Q:=by
 obtain ⟨h2,e1,y,e2,e3⟩:=zys (x:=h.next) ha;refine ztS hw e1 hf (by rw [← hf]; exact (zlN ha).1) hk ?_;have e4:({ h2 with wm:=min h.wm h2.wm }:za)=h1:=by
  subst e3;show ({ h1 with wm:=min h.wm (min h.next y) }:za)=h1;have:min h.wm (min h.next y)=h1.wm:=by rw [e2]; omega
  rw [this]
 rw [e4];exact r
theorem zjP {ops rest:List Oper} {o:Oper} {i:Nat} {done:List (Nat×Foot)} {fr:zf} {Q:zf->za->Prop} {f:ze} {vs:List ze} (hw:awanted ops fr o.guard=some true) (ha:aop T fr.op h o.op=some (.call f vs)) (hwm:h.wm<=h.next)
 (hk:zca ops i ⟨[],true,[],false⟩ done=true)
 (r:zja T f vs { h with wm:=h.next } λr h1=>∃ v,r=.ret v/\Quiet { h with wm:=h.next } h1/\Draw T ops rest (i+1) ((i,⟨[],true,[],false⟩)::done) (putDst fr o.dst v) { h1 with wm:=min h.wm h1.wm } Q):Draw T ops (o::rest) i done fr h Q:=by
 obtain ⟨n,r,h1,h2,v,rfl,q,m,fr',h3,h4,h5⟩:=r;have ha':aop T fr.op { h with wm:=h.next } o.op=some (.call f vs):=by
  obtain ⟨c,fo,ho,hc,e1,e2⟩:=zcH ha;rw [ho];simp only [aop,zcu,hc,e1,e2]
 have hq:Nat.ble h.next h1.wm=true:=by
  have:=q.wm;simp at this;exact Nat.ble_eq_true_of_le this
 have e:zfg (foot fr.op o) h h1=⟨[],true,[],false⟩:=by rw [zhK ha]; unfold zfg; simp [hq]
 refine ⟨max n m,fr',h3, ?_,h5⟩;have c1:=zeY (T:=T) (zbx (Nat.le_max_left n m)) _ _ _ _ h2;have c2:=zhL (T:=T) (zeY (zbx (Nat.le_max_right n m))) _ _ _ _ _ _ h4;simp only [adraw,hw,astep,ha',c1,e,hk,cond_true];exact c2
end
end Go.Ai
/- An abstract interpreter for the model's code: the arguments of a call,laid as abstract values that nobody writes. -/
namespace Go.Ai
open Option renaming bind->Zb,bind_some->Zs
structure zqQ (h h':za):Prop where
 next:h.next<=h'.next
 same:∀ b,b<h.next->h'.get b=h.get b
 wm:h.wm<=h.next->h'.wm<=h'.next
theorem zqQ.refl (h:za):zqQ h h:=⟨Nat.le_refl _,λ_ _=>rfl,id⟩
theorem zqQ.trans {a b c:za} (h:zqQ a b) (h':zqQ b c):zqQ a c:=
 ⟨Nat.le_trans h.next h'.next,λk hk=>(h'.same k (Nat.lt_of_lt_of_le hk h.next)).trans (h.same k hk),λq=>h'.wm (h.wm q)⟩
theorem zqQ.push (h:za) (x:zfy):zqQ h (h.push x):=
 ⟨by simp [za.next_push],λb hb=>by rw [za.get_push,if_neg (by omega)],λq=>Nat.le_succ_of_le q⟩
def Store:Type:=Nat->Option zfy
def Store.le (z z':Store):Prop:=∀ b x,z b=some x->z' b=some x
theorem Store.le.refl (z:Store):z.le z:=λ_ _ h=>h
theorem Store.le.trans {a b c:Store} (h:a.le b) (h':b.le c):a.le c:=λk x hk=>h' k x (h k x hk)
def za.st (h:za):Store:=λb=>if b<h.next then h.get b else none
theorem za.st_lt {h:za} {b:Nat} {x:zfy} (e:h.st b=some x):b<h.next/\h.get b=some x:=by
 unfold za.st at e;split at e
 . exact ⟨by assumption,e⟩
 . cases e
theorem za.st_of {h:za} {b:Nat} {x:zfy} (hb:b<h.next) (e:h.get b=some x):h.st b=some x:=by
 unfold za.st; rw [if_pos hb]; exact e
theorem zqQ.st {h h':za} (e:zqQ h h'):h.st.le h'.st:=λb x hb=>by
 obtain ⟨h1,h2⟩:=za.st_lt hb;exact za.st_of (Nat.lt_of_lt_of_le h1 e.next) (by rw [e.same b h1]; exact h2)
structure Rep (A:Type) where
 sz:Nat
 agg:Bool
 rel:Store->List ze->A->Prop
 len:∀ z cs x,rel z cs x->cs.length=sz
 mono:∀ z z' cs x,z.le z'->rel z cs x->rel z' cs x
 one:agg=false->sz=1
 ones:∀ z cs x,rel z cs x->cs.all ze.one=true
def zj (k:IntKind):Rep Int:=
 ⟨1,false,λ_ cs x=>cs=[.int k x]/\k.min<=x/\x<=k.max,λ_ _ _ h=>by rw [h.1]; rfl,λ_ _ _ _ _ h=>h,λ_=>rfl,λ_ _ _ h=>by rw [h.1]; rfl⟩
def zau:Rep Bool:=⟨1,false,λ_ cs x=>cs=[.bool x],λ_ _ _ h=>by rw [h]; rfl,λ_ _ _ _ _ h=>h,λ_=>rfl,λ_ _ _ h=>by rw [h]; rfl⟩
def zhk {A:Type} (R:Rep A) (z:Store) (v:ze) (xs:List A):Prop:=
 xs.length<=maxLen/\((v=.nilslice/\xs=[])\/(∃ b off cap,v=.slice b off 0 R.sz cap/\xs=[]/\z b=some .dead) \/
  ∃ b off cap cells ro,v=.slice b off xs.length R.sz cap/\z b=some (.arr cells ro)/\off+xs.length*R.sz<=cells.length/\(∀ c,cap=some c->xs.length<=c) /\
   ∀ i x,xs[i]?=some x->R.rel z ((cells.drop (off+i*R.sz)).take R.sz) x)
theorem zhk.mono {A:Type} {R:Rep A} {z z':Store} {v:ze} {xs:List A} (e:z.le z') (r:zhk R z v xs):zhk R z' v xs:=by
 obtain ⟨r0,r⟩:=r;refine ⟨r0, ?_⟩;rcases r with r | ⟨b,off,cap,r1,r2,r4⟩ | ⟨b,off,cap,cells,ro,r1,r3,r4,r6,r5⟩
 . exact .inl r
 . exact .inr (.inl ⟨b,off,cap,r1,r2,e _ _ r4⟩)
 . exact .inr (.inr ⟨b,off,cap,cells,ro,r1,e _ _ r3,r4,r6,λi x hx=>R.mono _ _ _ _ e (r5 i x hx)⟩)
theorem zhk.one {A:Type} {R:Rep A} {z:Store} {v:ze} {xs:List A} (r:zhk R z v xs):v.one=true:=by
 rcases r.2 with ⟨rfl,_⟩ | ⟨b,off,cap,rfl,_⟩ | ⟨b,off,cap,cells,ro,rfl,_⟩<;>rfl
def zb {A:Type} (R:Rep A):Rep (List A):=
 ⟨1,false,λz cs xs=>∃ v,cs=[v]/\zhk R z v xs,λ_ _ _ h=>by obtain ⟨v,h,_⟩:=h; rw [h]; rfl,λ_ _ _ _ e h=>let ⟨v,h1,h2⟩:=h; ⟨v,h1,h2.mono e⟩,
  λ_=>rfl,λ_ _ _ h=>by obtain ⟨v,h,r⟩:=h; rw [h]; simp [r.one]⟩
def zcR:Rep Unit:=⟨0,true,λ_ cs _=>cs=[],λ_ _ _ h=>by rw [h]; rfl,λ_ _ _ _ _ h=>h,λh=>(by cases h),λ_ _ _ h=>by rw [h]; rfl⟩
def zH {A B:Type} (R:Rep A) (S:Rep B):Rep (A×B):=
 ⟨R.sz+S.sz,true,λz cs x=>∃ c1 c2,cs=c1++c2/\R.rel z c1 x.1/\S.rel z c2 x.2,
  λh cs x r=>by obtain ⟨c1,c2,rfl,r1,r2⟩:=r; rw [List.length_append,R.len _ _ _ r1,S.len _ _ _ r2],
  λ_ _ _ _ e r=>let ⟨c1,c2,r0,r1,r2⟩:=r; ⟨c1,c2,r0,R.mono _ _ _ _ e r1,S.mono _ _ _ _ e r2⟩,
  λh=>(by cases h),λz cs x r=>by obtain ⟨c1,c2,rfl,r1,r2⟩:=r; rw [List.all_append,R.ones _ _ _ r1,S.ones _ _ _ r2]; rfl⟩
def zm8 (ρ:Emb) (h:za):Prop:=∀ b l,ρ b=some l->¬ Owns h b
structure Lay (W:World) (ρ:Emb) (h:za) (ρ':Emb) (h':za):Prop where
 ext:Ext ρ ρ'
 heap:zeb W.heap.size ρ' h' W
 none:zm8 ρ' h'
 grow:zqQ h h'
theorem Lay.trans {W:World} {ρ ρ1 ρ2:Emb} {h h1 h2:za} (a:Lay W ρ h ρ1 h1) (b:Lay W ρ1 h1 ρ2 h2):Lay W ρ h ρ2 h2:=
 ⟨a.ext.trans b.ext,b.heap,b.none,a.grow.trans b.grow⟩
theorem Lay.push {W:World} {ρ:Emb} {h:za} (hr:zeb W.heap.size ρ h W) (hn:zm8 ρ h) (x:zfy) (l:Loc) (hl:l.c<W.heap.size) (hb:zn8 W.heap.size ρ (some x) l W) (ho:∀ c,x=.arr c true\/x=.dead->True) (hx:(∃ c,x=.arr c true)\/x=.dead) :
 Lay W ρ h (ρ.add h.next l) (h.push x):=by
 have hfr:=hr.none_next;have hnx:¬ Owns (h.push x) h.next:=by
  unfold Owns;rw [za.get_push,if_pos rfl];rcases hx with ⟨c,rfl⟩ | rfl<;>exact λq=>q
 have hno:zm8 (ρ.add h.next l) (h.push x):=by
  intro b l' hb';by_cases e:b=h.next
  . subst e; exact hnx
  . rw [Emb.add_ne _ _ _ e] at hb';rw [zjC e];exact hn b l' hb'
 refine ⟨Ext.add hfr,⟨⟨?_, ?_, ?_,hr.base⟩, ?_⟩,hno,zqQ.push _ _⟩
 . intro b l' hb';by_cases e:b=h.next
   . subst e; rw [Emb.add_same] at hb'; cases hb'; exact hl
   . rw [Emb.add_ne _ _ _ e] at hb'; exact hr.clt b l' hb'
 . intro b l' hb';rw [za.get_push];by_cases e:b=h.next
   . subst e; rw [Emb.add_same] at hb'; cases hb'; rw [if_pos rfl]; exact hb.mono (Ext.add hfr) rfl
   . rw [Emb.add_ne _ _ _ e] at hb'; rw [if_neg e]; exact (hr.blk b l' hb').mono (Ext.add hfr) rfl
 . intro b b' l' l'' hb' _ _ ho' _;exact absurd ho' (hno b l' hb')
 . intro b l' hb';rw [za.next_push];by_cases e:b=h.next
   . omega
   . rw [Emb.add_ne _ _ _ e] at hb';have:=hr.lt b l' hb';omega
def Opens (P:Program) {A:Type} (t:TypeId) (R:Rep A):Prop:=
 P.cellsOf t=R.sz/\R.agg=(match P.underlying t with | some (.struct _)=>true | _=>false)/\∀ (H:Type) (enc:TypeId×Value->H) (W:World) (fuel:Nat) (cs:List Value) (x:DataW H×List MemPlace),0<W.heap.size ->
  DataW.trod enc P W 0 (λ_=>true) true fuel t cs=some x->∀ (ρ:Emb) (h:za),zeb W.heap.size ρ h W->zm8 ρ h ->
   ∃ ρ' h' cells d,Lay W ρ h ρ' h'/\zcd ρ' cells cs/\R.rel h'.st cells d
section
variable {P:Program}
theorem zm9 {t:TypeId} {k:IntKind} (ht:P.underlying t=some (.int k)) (hc:P.cellsOf t=1):Opens P t (zj k):=by
 refine ⟨hc,by rw [ht]; rfl,λH enc W fuel cs x _ hx ρ h hr hn=>?_⟩;obtain ⟨n,rfl,_,hw⟩:=DataW.trod_int ht hx;simp only [Lit.wf,Bool.and_eq_true,decide_eq_true_eq] at hw;exact ⟨ρ,h,[.int k n],n,⟨.refl _,hr,hn,.refl _⟩,.cons (.int k n) (.nil _),rfl,hw.1,hw.2⟩
theorem zqo {t:TypeId} (ht:P.underlying t=some .bool) (hc:P.cellsOf t=1):Opens P t zau:=by
 refine ⟨hc,by rw [ht]; rfl,λH enc W fuel cs x _ hx ρ h hr hn=>?_⟩;obtain ⟨b,rfl,_⟩:=DataW.trod_bool ht hx;exact ⟨ρ,h,[.bool b],b,⟨.refl _,hr,hn,.refl _⟩,.cons (.bool b) (.nil _),rfl⟩
theorem ziY (a:Addr) (m n:Nat):(a.add m).add n=a.add (m+n):=by
 unfold Addr.add;by_cases h1:n=0
 . subst h1; simp
 . by_cases h2:m=0
   . subst h2; simp
   . rw [if_neg h1,if_neg h2,if_neg (by omega)];simp [Nat.add_assoc]
theorem zlf {A:Type} {e:TypeId} {R:Rep A} (ho:Opens P e R) {H:Type} {enc:TypeId×Value->H} {W:World} (hpos:0<W.heap.size) {fuel:Nat} :
    ∀ (css:List (List Value)),(∀ cs∈css,∃ x,DataW.trod enc P W 0 (λ_=>true) true fuel e cs=some x)->∀ (ρ:Emb) (h:za),zeb W.heap.size ρ h W->zm8 ρ h ->
      ∃ (ρ':Emb) (h':za) (cellss:List (List ze)) (xs:List A),Lay W ρ h ρ' h'/\cellss.length=css.length/\xs.length=css.length/\zcd ρ' cellss.flatten css.flatten /\
        ∀ (i:Nat) (c:List ze) (x:A),cellss[i]?=some c->xs[i]?=some x->R.rel h'.st c x
  | [],_,ρ,h,hr,hn=>⟨ρ,h,[],[],⟨.refl _,hr,hn,.refl _⟩,rfl,rfl,.nil _,by simp⟩
  | cs::css,hall,ρ,h,hr,hn=>by
    obtain ⟨x,hx⟩:=hall cs (List.mem_cons_self ..);obtain ⟨ρ1,h1,c1,d1,l1,r1,q1⟩:=ho.2.2 H enc W fuel cs x hpos hx ρ h hr hn;obtain ⟨ρ2,h2,cells2,xs,l2,e1,e2,r2,q2⟩:=zlf ho hpos css (λc hc=>hall c (List.mem_cons_of_mem _ hc)) ρ1 h1 l1.heap l1.none;refine ⟨ρ2,h2,c1::cells2,d1::xs,l1.trans l2,by simp [e1],by simp [e2], ?_, ?_⟩
    · simp only [List.flatten_cons];exact (r1.mono l2.ext).append r2
    · intro i c y hc hy;cases i with
      | zero=>
        simp at hc hy;subst hc hy;exact R.mono _ _ _ _ l2.grow.st q1
      | succ i=>exact q2 i c y (by simpa using hc) (by simpa using hy)
theorem zga {α:Type} {n:Nat}:∀ (ls:List (List α)),(∀ l∈ls,l.length=n)->ls.flatten.length=ls.length*n/\∀ i l,ls[i]?=some l->(ls.flatten.drop (i*n)).take n=l
 | [],_=>⟨by simp,by simp⟩
 | l::ls,h=>by
  obtain ⟨h1,h2⟩:=zga ls (λx hx=>h x (List.mem_cons_of_mem _ hx));have hl:=h l (List.mem_cons_self ..);refine ⟨by simp [h1,hl,Nat.add_mul]; omega,λi x hx=>?_⟩;cases i with
  | zero=>
   simp at hx;subst hx;simp [← hl]
  | succ i=>
   have:=h2 i x (by simpa using hx);have e:(l::ls).flatten.drop ((i+1)*n)=ls.flatten.drop (i*n):=by
    rw [List.flatten_cons,show (i+1)*n=l.length+i*n from by rw [hl,Nat.add_mul]; omega,List.drop_append,List.drop_eq_nil_of_le (by omega)];simp
   rw [e]; exact this
theorem zoo {α:Type} {n:Nat} (hn:0<n) (ls:List (List α)) (h:∀ l∈ls,l.length=n) (k:Nat) (x:α) (hk:ls.flatten[k]?=some x):∃ l,ls[k/n]?=some l/\l[k%n]?=some x:=by
 obtain ⟨h1,h2⟩:=zga ls h;have hlt:k<ls.length*n:=by rw [← h1]; exact (List.getElem?_eq_some_iff.1 hk).1
 have hd:k/n<ls.length:=by rw [Nat.div_lt_iff_lt_mul hn]; exact hlt
 refine ⟨ls[k/n],List.getElem?_eq_getElem hd, ?_⟩;rw [← h2 (k/n) _ (List.getElem?_eq_getElem hd),List.getElem?_take,if_pos (Nat.mod_lt _ hn),List.getElem?_drop];rw [show k/n*n+k%n=k from by rw [Nat.mul_comm]; exact Nat.div_add_mod k n];exact hk
theorem zc6 {A:Type} {t e:TypeId} {R:Rep A} (ht:P.underlying t=some (.slice e)) (hc:P.cellsOf t=1) (ho:Opens P e R) (hsz:0<R.sz):Opens P t (zb R):=by
 refine ⟨hc,by rw [ht]; rfl,λH enc W fuel cs x hpos hx ρ h hr hn=>?_⟩;rcases DataW.trod_slice ht hx with ⟨rfl,_⟩ | ⟨a,len,cap,elems,rest,n,rfl,rfl,_,_,hlc,hcm,hel,helems,hrest,_⟩
 ·exact ⟨ρ,h,[.nilslice],[],⟨.refl _,hr,hn,.refl _⟩,.cons .nilslice (.nil _),_,rfl,by simp [maxLen],.inl ⟨rfl,rfl⟩⟩
 ·obtain ⟨hrl,hrest⟩:=hrest rfl;have hce:=ho.1
  -- every element up to the capacity can be read
  have read:∀ i,i<cap->∃ ci x,W.cells? 0 (a.add (i*R.sz)) R.sz=some ci/\DataW.trod enc P W 0 (λ_=>true) true n e ci=some x:=by
   intro i hi;by_cases hil:i<len
   ·have h1:=helems i hil;rw [List.getElem?_eq_getElem (by omega),Option.bind_eq_some_iff] at h1;obtain ⟨ci,h1,h2⟩:=h1;rw [hce] at h1;exact ⟨ci,_,h1,h2⟩
   ·have h1:=hrest (i-len) (by omega);rw [List.getElem?_eq_getElem (by omega),Option.bind_eq_some_iff] at h1;obtain ⟨ci,h1,h2⟩:=h1;rw [hce,show len+(i-len)=i from by omega] at h1;exact ⟨ci,_,h1,h2⟩
  by_cases hc0:cap=0
  ·have hl0:len=0:=by omega
   subst hc0 hl0;have hlay:=Lay.push hr hn .dead ⟨0,0,0⟩ hpos trivial (λ_ _=>trivial) (.inr rfl);refine ⟨_,_,[.slice h.next 0 0 R.sz none],[],hlay,.cons (.slice h.next 0 0 R.sz none ⟨0,0,0⟩ a 0 (Emb.add_same _ _ _) (Nat.le_refl _) (λk hk=>by cases hk) (.inl rfl)) (.nil _),_,rfl,by simp [maxLen],.inr (.inl ⟨h.next,0,none,rfl,rfl, ?_⟩)⟩;exact za.st_of (by rw [za.next_push]; omega) (by rw [za.get_push,if_pos rfl])
  ·-- the block
   have hcell:∀ k,k<cap*R.sz->∃ v,W.cell? (a.add k)=some v:=by
    intro k hk;have hd:k/R.sz<cap:=by rw [Nat.div_lt_iff_lt_mul hsz]; exact hk
    obtain ⟨ci,_,h1,_⟩:=read (k/R.sz) hd;obtain ⟨_,h2,h3⟩:=World.cells?_some h1;have hm:=Nat.mod_lt k hsz;have h4:=h3 (k%R.sz) hm;rw [ziY,show k/R.sz*R.sz+k%R.sz=k from by rw [Nat.mul_comm]; exact Nat.div_add_mod k _,List.getElem?_eq_getElem (by omega)] at h4;exact ⟨_,h4⟩
   have hcs:0<cap*R.sz:=Nat.mul_pos (by omega) hsz;obtain ⟨v0,hv0⟩:=hcell 0 hcs;have ha0:a.add 0=a:=by simp [Addr.add]
   rw [ha0] at hv0;unfold World.cell? at hv0;split at hv0
   case h_2=>cases hv0
   rename_i cc el fz hblk;have hspot:a.spot=none:=by
    cases hs:a.spot with
    | none=>rfl
    | some q=>rw [hs] at hv0; simp at hv0
   have hadd:∀ k,W.cell? (a.add k)=cc[a.off+k]?:=by
    intro k;unfold World.cell? Addr.add;by_cases hk:k=0
    ·subst hk; simp [hblk,hspot]
    ·simp [hk,hblk]
   have hfit:a.off+cap*R.sz<=cc.size:=by
    obtain ⟨v,hv⟩:=hcell (cap*R.sz-1) (by omega);rw [hadd] at hv;have:=(Array.getElem?_eq_some_iff.1 hv).1;omega
   have hblt:a.block<W.heap.size:=(Array.getElem?_eq_some_iff.1 hblk).1
   -- the elements
   have hpieces:∀ i,i<len->∃ x,DataW.trod enc P W 0 (λ_=>true) true n e ((cc.toList.drop (a.off+i*R.sz)).take R.sz)=some x:=by
    intro i hi;obtain ⟨ci,x,h1,h2⟩:=read i (by omega);obtain ⟨_,h3,h4⟩:=World.cells?_some h1;have:ci=(cc.toList.drop (a.off+i*R.sz)).take R.sz:=by
     apply List.ext_getElem?;intro j;by_cases hj:j<R.sz
     ·rw [← h4 j hj,ziY,hadd,List.getElem?_take,if_pos hj,List.getElem?_drop,Nat.add_assoc];simp
     ·rw [List.getElem?_eq_none (by omega),List.getElem?_eq_none (by simp; omega)]
    exact ⟨x,by rw [← this]; exact h2⟩
   obtain ⟨ρ1,h1,cellss,xs,l1,e1,e2,r1,q1⟩:=zlf ho hpos (enc:=enc) (fuel:=n) ((List.range len).map λi=>(cc.toList.drop (a.off+i*R.sz)).take R.sz) (by
    intro c hc;obtain ⟨i,hi,rfl⟩:=List.mem_map.1 hc;exact hpieces i (List.mem_range.1 hi)) ρ h hr hn
   simp only [List.length_map,List.length_range] at e1 e2;have hclen:∀ c∈cellss,c.length=R.sz:=by
    intro c hc;obtain ⟨i,hi,rfl⟩:=List.getElem_of_mem hc;exact R.len _ _ _ (q1 i _ xs[i] (List.getElem?_eq_getElem hi) (List.getElem?_eq_getElem (by omega)))
   obtain ⟨fl,fp⟩:=zga cellss hclen;have hplen:∀ c∈(List.range len).map (λi=>(cc.toList.drop (a.off+i*R.sz)).take R.sz),c.length=R.sz:=by
    intro c hc;obtain ⟨i,hi,rfl⟩:=List.mem_map.1 hc;have hi:=List.mem_range.1 hi;have:(i+1)*R.sz<=cap*R.sz:=Nat.mul_le_mul_right _ (by omega);rw [Nat.add_mul] at this;simp;omega
   have hbr:zn8 W.heap.size ρ1 (some (.arr cellss.flatten true)) ⟨a.block,a.off,cc.size⟩ W:=by
    refine ⟨cc,el,fz,hblk,rfl, ?_,λi v hv=>?_,λq=>by cases q⟩
    ·have:len*R.sz<=cap*R.sz:=Nat.mul_le_mul_right _ hlc;simp only [fl,e1];omega
    ·obtain ⟨v',hv',hrel⟩:=r1.at hv;obtain ⟨l,hl1,hl2⟩:=zoo hsz _ hplen i v' hv';rw [List.getElem?_map] at hl1;cases hr':(List.range len)[i/R.sz]? with
     | none=>rw [hr'] at hl1; cases hl1
     | some q=>
      rw [hr'] at hl1;cases hl1;have hq:q=i/R.sz:=by
       obtain ⟨h1,h2⟩:=List.getElem?_eq_some_iff.1 hr';simpa using h2.symm
      subst hq;rw [List.getElem?_take,if_pos (Nat.mod_lt _ hsz),List.getElem?_drop] at hl2;rw [Nat.add_assoc,show i/R.sz*R.sz+i%R.sz=i from by rw [Nat.mul_comm]; exact Nat.div_add_mod i _] at hl2;exact ⟨v',by simpa using hl2,hrel⟩
   have hlay:=Lay.push l1.heap l1.none (.arr cellss.flatten true) ⟨a.block,a.off,cc.size⟩ hblt hbr (λ_ _=>trivial) (.inl ⟨_,rfl⟩);refine ⟨_,_,[.slice h1.next 0 len R.sz none],xs,l1.trans hlay,.cons (.slice h1.next 0 len R.sz none ⟨a.block,a.off,cc.size⟩ a cap (Emb.add_same _ _ _) hlc (λk hk=>by cases hk) (.inr ⟨?_,by simpa using hfit⟩)) (.nil _),_,rfl,by omega,.inr (.inr ⟨h1.next,0,none,cellss.flatten,true,by rw [e2], ?_, ?_,λc q=>(nomatch q), ?_⟩)⟩
   ·obtain ⟨ab,ao,as⟩:=a; simp at hspot; subst hspot; rfl
   ·exact za.st_of (by rw [za.next_push]; omega) (by rw [za.get_push,if_pos rfl])
   ·rw [fl,e1,e2]; omega
   ·intro i x hx;have hi:i<xs.length:=(List.getElem?_eq_some_iff.1 hx).1;rw [Nat.zero_add,fp i _ (List.getElem?_eq_getElem (by omega))];exact R.mono _ _ _ _ hlay.grow.st (q1 i _ x (List.getElem?_eq_getElem (by omega)) hx)
def zlg (P:Program) {A:Type} (fs:List Field) (o:Nat) (R:Rep A):Prop:=
 ∀ (H:Type) (enc:TypeId×Value->H) (W:World) (fuel:Nat) (cs:List Value),0<W.heap.size->cs.length=o+R.sz ->
  (∀ f∈fs,∃ x,DataW.trod enc P W 0 (λ_=>true) true fuel f.type ((cs.drop f.offset).take (P.cellsOf f.type))=some x)->∀ (ρ:Emb) (h:za),zeb W.heap.size ρ h W->zm8 ρ h ->
   ∃ ρ' h' cells d,Lay W ρ h ρ' h'/\zcd ρ' cells (cs.drop o)/\R.rel h'.st cells d
theorem zcv (o:Nat):zlg P [] o zcR:=by
 intro H enc W fuel cs _ hl _ ρ h hr hn;refine ⟨ρ,h,[],(),⟨.refl _,hr,hn,.refl _⟩, ?_,rfl⟩;rw [List.drop_eq_nil_of_le (by rw [hl]; simp [zcR])];exact .nil _
theorem zop {A B:Type} {f:Field} {fs:List Field} {o:Nat} {R:Rep A} {S:Rep B} (hf:f.offset=o) (ho:Opens P f.type R) (hs:zlg P fs (o+R.sz) S):zlg P (f::fs) o (zH R S):=by
 intro H enc W fuel cs hpos hl hall ρ h hr hn;obtain ⟨x,hx⟩:=hall f (List.mem_cons_self ..);rw [hf,ho.1] at hx;obtain ⟨ρ1,h1,c1,d1,l1,r1,q1⟩:=ho.2.2 H enc W fuel _ x hpos hx ρ h hr hn;obtain ⟨ρ2,h2,c2,d2,l2,r2,q2⟩:=hs H enc W fuel cs hpos (by rw [hl]; simp [zH]; omega) (λg hg=>hall g (List.mem_cons_of_mem _ hg)) ρ1 h1 l1.heap l1.none;refine ⟨ρ2,h2,c1++c2,(d1,d2),l1.trans l2, ?_,c1,c2,rfl,R.mono _ _ _ _ l2.grow.st q1,q2⟩;have e:cs.drop o=(cs.drop o).take R.sz++cs.drop (o+R.sz):=by
  rw [show cs.drop (o+R.sz)=(cs.drop o).drop R.sz from by rw [List.drop_drop]];exact (List.take_append_drop _ _).symm
 rw [e];exact (r1.mono l2.ext).append r2
theorem zbE {A:Type} {t:TypeId} {fs:Array Field} {R:Rep A} (ht:P.underlying t=some (.struct fs)) (hc:P.cellsOf t=R.sz) (hag:R.agg=true) (ho:zlg P fs.toList 0 R):Opens P t R:=by
 refine ⟨hc,by rw [ht]; exact hag,λH enc W fuel cs x hpos hx ρ h hr hn=>?_⟩;obtain ⟨xs,n,rfl,_,h1,h2,h3⟩:=DataW.trod_struct ht hx;obtain ⟨ρ',h',cells,d,l,r,q⟩:=ho H enc W n cs hpos (by rw [h1,hc]; omega) (λf hf=>by
  obtain ⟨i,hi,rfl⟩:=List.getElem_of_mem hf;have hi':i<fs.size:=by simpa using hi
  have:=h3 i fs.toList[i] (by simp [hi']);rw [List.getElem?_eq_getElem (by omega)] at this;exact ⟨_,this⟩) ρ h hr hn
 exact ⟨ρ',h',cells,d,l,by simpa using r,q⟩
def ze.isAgg:ze->Bool
 | .agg _=>true
 | _=>false
structure TV {A:Type} (R:Rep A) (z:Store) (v:ze) (x:A):Prop where
 rel:R.rel z v.cells x
 agg:v.isAgg=R.agg
theorem TV.mono {A:Type} {R:Rep A} {z z':Store} {v:ze} {x:A} (e:z.le z') (t:TV R z v x):TV R z' v x:=⟨R.mono _ _ _ _ e t.rel,t.agg⟩
theorem zrv {A:Type} {t:TypeId} {R:Rep A} (ho:Opens P t R) {H:Type} {enc:TypeId×Value->H} {W:World} {base:Nat} {v:Value} {d:DataW H} {ps:List MemPlace} (hpos:0<W.heap.size)
    (hok:Value.okWide P W .any base t v) (hflat:(match P.underlying t with | some (.int _) | some .bool | some (.slice _) | some (.struct _)=>true | _=>false)=true)
    (hd:DataW.Trod enc P W 0 (λ_=>true) true t v d ps) {ρ:Emb} {h:za} (hr:zeb W.heap.size ρ h W) (hn:zm8 ρ h) :
    ∃ ρ' h' a x,Lay W ρ h ρ' h'/\zaa ρ' a v/\TV R h'.st a x:=by
  obtain ⟨fuel,hd⟩:=hd;obtain ⟨ρ',h',cells,x,l,r,q⟩:=ho.2.2 H enc W fuel _ _ hpos hd ρ h hr hn;have scal:R.agg=false->v.cells=#[v]->(∀ cs,v≠.agg cs)->∃ ρ' h' a x,Lay W ρ h ρ' h'/\zaa ρ' a v/\TV R h'.st a x:=by
    intro hag e hna;rw [e] at r;cases cells with
    | nil=>have:=r.1; simp at this
    | cons c rest=>
      cases rest with
      | cons _ _=>have:=r.1; simp at this
      | nil=>
        have hv:zaa ρ' c v:=r.head;refine ⟨ρ',h',c,x,l,hv, ?_⟩;have:c.cells=[c]/\c.isAgg=false:=by
          cases c with
          | agg cs=>cases hv; exact absurd rfl (hna _)
          | _=>exact ⟨rfl,rfl⟩
        exact ⟨by rw [this.1]; exact q,by rw [this.2,hag]⟩
  split at hflat
  · rename_i k ht;obtain ⟨n,rfl⟩:=WideShapes.okWide_int ht hok;exact scal (by rw [ho.2.1,ht]) rfl (λ_ q=>by cases q)
  · rename_i ht;obtain ⟨n,rfl⟩:=WideShapes.okWide_bool ht hok;exact scal (by rw [ho.2.1,ht]) rfl (λ_ q=>by cases q)
  · rename_i ht;obtain ⟨a,len,cap,rfl⟩:=WideShapes.okWide_slice ht hok;exact scal (by rw [ho.2.1,ht]) rfl (λ_ q=>by cases q)
  · rename_i fs ht;simp only [Value.okWide,ht] at hok;obtain ⟨cs,rfl,_⟩:=hok;refine ⟨ρ',h',.agg cells,x,l, ?_,q,by rw [ho.2.1,ht]; rfl⟩;exact .agg' (cs':=cs.toList) (by simpa [Value.cells] using r)
  · cases hflat
end
end Go.Ai
/- An abstract interpreter for the model's code: regions as propositions that simplification unfolds. -/
namespace Go.Ai
open Option renaming bind->Zb,bind_some->Zs
theorem zja.mono {T:Tab} {f:ze} {vs:List ze} {h:za} {Q Q':zg3->za->Prop} (c:zja T f vs h Q) (hq:∀ r h',Q r h'->Q' r h'):zja T f vs h Q':=
 let ⟨n,r,h',a,b⟩:=c; ⟨n,r,h',a,hq _ _ b⟩
theorem ziq.mono {T:Tab} {f:FuncId} {vs:List ze} {h:za} {Q Q':zg3->za->Prop} (c:ziq T f vs h Q) (hq:∀ r h',Q r h'->Q' r h'):ziq T f vs h Q':=
 let ⟨n,r,h',a,b⟩:=c; ⟨n,r,h',a,hq _ _ b⟩
def zgz:Op->Bool
 | .store _ _ _ | .mapUpdate _ _ _ _ | .insert _ _ _ _=>false
 | .call c=>(match c.callee with | .builtin .append | .builtin .copy=>false | _=>true)
 | _=>true
theorem zoq {a b:Foot} (ha:a.wr=[]) (ha':a.wall=false) (hb:b.wr=[]) (hb':b.wall=false):a.apart b=true:=by
 have e:∀ l,disj l []=true:=by intro l; simp [disj]
 have e2:∀ l,disj [] l=true:=by intro l; rfl
 unfold Foot.apart;rw [ha,ha',hb,hb'];simp [e,e2]
theorem ziZ {ev:Operand->ze} {o:Oper} (h:zgz o.op=true):(foot ev o).wr=[]/\(foot ev o).wall=false:=by
 unfold foot;cases ho:o.op<;>rw [ho] at h<;>simp only [zgz] at h<;>(try (cases h; done))<;>(try exact ⟨rfl,rfl⟩);rename_i c;cases hc:c.callee with
 | value f=>simp only [hc]; simp
 | invoke r m=>simp only [hc]; simp
 | builtin b=>rw [hc] at h; cases b<;>simp at h<;>simp [hc]
theorem zlU {ops:List Oper} {i:Nat} {f:Foot} {done:List (Nat×Foot)} (hd:∀ p∈done,p.2.wr=[]/\p.2.wall=false) (hf:f.wr=[]) (hf':f.wall=false):zca ops i f done=true:=by
 unfold zca;rw [if_pos (List.all_eq_true.2 λp hp=>zoq (hd p hp).1 (hd p hp).2 hf hf')]
theorem zlV {T:Tab} {g:FuncId} {F:Func} {c:Code} {vs:List ze} {h:za} {Q:zg3->za->Prop} (hF:T.funcs.get g=some F) (hb:F.body=some c) (hn:Nat.blt F.ntmps vs.length=false)
 (r:Run T c (zaz 0 vs .leaf) h λe fr h'=>(e=.normal\/e=.ret)/\∃ us,aresults T F.results.toList fr h'=some us/\Q (.ret (packed us)) h'):ziq T g vs h Q:=by
 obtain ⟨n,e,fr,h',h1,h2,us,h3,h4⟩:=r;refine ⟨n,_,h', ?_,h4⟩;unfold zdH;rcases h2 with rfl | rfl<;>simp only [hF,hn,cond_false,hb,h1,h3]
theorem zcw {T:Tab} {g:FuncId} {a b vs:List ze} {h:za} {Q:zg3->za->Prop} (hc:T.consts.get g=none) (c:ziq T g (a++vs++b) h Q):zja T (.func (.func g) a b) vs h Q:=by
 obtain ⟨n,r,h',h1,h2⟩:=c;refine ⟨n,r,h', ?_,h2⟩;simp only [acall,hc];exact h1
theorem zjQ {T:Tab} {g:FuncId} {p:List ze->Option ze} {v:ze} {a b vs:List ze} {h:za} {Q:zg3->za->Prop} (hc:T.consts.get g=some p) (hv:p (a++vs++b)=some v) (q:Q (.ret v) h):zja T (.func (.func g) a b) vs h Q:=
 ⟨0,_,h,by simp only [acall,hc,hv]; rfl,q⟩
theorem zpo (fr:zf) (t:Nat):fr.op (.tmp t)=fr.ev t:=rfl
theorem zaI (fr:zf) (d:Nat) (v:ze):putDst fr (some d) v=Tr.set fr d v:=rfl
theorem ztU (fr:zf) (v:ze):putDst fr none v=fr:=rfl
theorem ztV {h:za} (hwm:h.wm<=h.next):lay (lay h h.next) (min h.wm (lay h h.next).wm)=h:=by
 show ({ h with wm:=min h.wm h.next }:za)=h;rw [Nat.min_eq_left hwm]
end Go.Ai
/- Symbolic runs of the abstract interpreter: what a frame's places hold,what rows and boxes a function owns. -/
namespace Go.Ai.Sx
open Option renaming bind->Zb,bind_some->Zs
def _root_.Go.Ai.Store.Sub (z:Store) (h:za):Prop:=∀ b x,z b=some x->h.get b=some x/\b<h.next
def zqp {A:Type} (R:Rep A) (z:Store) (a:ze) (x:A):Prop:=
 ∃ b off cells ro,a=.ptr b off/\z b=some (.arr cells ro)/\off+R.sz<=cells.length/\R.rel z ((cells.drop off).take R.sz) x
def z5 {A:Type} (R:Rep A):Rep A:=
 ⟨1,false,λz cs x=>∃ a,cs=[a]/\zqp R z a x,λ_ _ _ h=>by obtain ⟨v,h,_⟩:=h; rw [h]; rfl,
  λ_ _ _ _ e h=>let ⟨a,h1,b,off,cells,ro,h2,h3,h4,h5⟩:=h; ⟨a,h1,b,off,cells,ro,h2,e _ _ h3,h4,R.mono _ _ _ _ e h5⟩,
  λ_=>rfl,λ_ _ _ h=>by obtain ⟨v,h,_,_,_,_,r,_⟩:=h; rw [h,r]; rfl⟩
inductive TE:Type 1 where
 | val {A:Type} (R:Rep A) (x:A)
 | raw (v:ze)
 | elt (v:ze) (i off:Nat)
 | tup (es:List TE)
mutual
def TE.ok (z:Store):TE->ze->Prop
 | .val R x,a=>TV R z a x
 | .raw v,a=>a=v
 | .elt v i off,a=>∃ b o len es cap,v=.slice b o len es cap/\a=.ptr b (o+i*es+off)
 | .tup es,a=>∃ vs,a=.tuple vs/\zz z es vs
def zz (z:Store):List TE->List ze->Prop
 | [],vs=>vs=[]
 | e::es,vs=>∃ v vs',vs=v::vs'/\e.ok z v/\zz z es vs'
end
mutual
theorem TE.ok_mono {z z':Store} (hz:z.le z'):∀ {e:TE} {a:ze},e.ok z a->e.ok z' a
 | .val _ _,_,h=>TV.mono hz h
 | .raw _,_,h=>h
 | .elt ..,_,h=>h
 | .tup es,_,h=>by
  simp only [TE.ok] at h ⊢;obtain ⟨vs,h1,h2⟩:=h;exact ⟨vs,h1,zdg hz h2⟩
theorem zdg {z z':Store} (hz:z.le z'):∀ {es:List TE} {vs:List ze},zz z es vs->zz z' es vs
 | [],_,h=>by simp only [zz] at h ⊢; exact h
 | e::es,_,h=>by
  simp only [zz] at h ⊢;obtain ⟨v,vs',h1,h2,h3⟩:=h;exact ⟨v,vs',h1,TE.ok_mono hz h2,zdg hz h3⟩
end
abbrev Env:=List (Nat×TE)
def look:Env->Nat->Option TE
 | [],_=>none
 | (a,e)::Γ,t=>bif Nat.beq a t then some e else look Γ t
def zhz (z:Store) (Γ:Env) (fr:zf):Prop:=∀ t e,look Γ t=some e->e.ok z (fr.ev t)
theorem zhz.mono {z z':Store} {Γ:Env} {fr:zf} (hz:z.le z') (h:zhz z Γ fr):zhz z' Γ fr:=λt e q=>TE.ok_mono hz (h t e q)
theorem zhz.set {z:Store} {Γ:Env} {fr:zf} {d:Nat} {e:TE} {v:ze} (h:zhz z Γ fr) (q:e.ok z v):zhz z ((d,e)::Γ) (Tr.set fr d v):=by
 intro t e' hl;rw [zf.ev_set];simp only [look] at hl;by_cases hd:d=t
 . subst hd; simp at hl; subst hl; rw [if_pos rfl]; exact q
 . have:Nat.beq d t=false:=by rw [Bool.eq_false_iff]; intro q; exact hd (Nat.eq_of_beq_eq_true q)
   rw [this] at hl;rw [if_neg (Ne.symm hd)];exact h t e' hl
def Sublist (Γ Γ':Env):Prop:=∀ t e,look Γ t=some e->look Γ' t=some e
def zlW (Γ':Env):Env->Prop
 | []=>True
 | p::Γ=>look Γ' p.1=some p.2/\zlW Γ' Γ
theorem zlW.sub {Γ':Env}:∀ {Γ:Env},zlW Γ' Γ->Sublist Γ Γ'
 | [],_,_,_,h=>by cases h
 | p::Γ,ha,t,e,h=>by
  simp only [look] at h;cases hb:Nat.beq p.1 t with
  | true=>
   rw [hb] at h;have:=Nat.eq_of_beq_eq_true hb;subst this;cases h;exact ha.1
  | false=>rw [hb] at h; exact ha.2.sub t e h
inductive Obj:Type 1 where
 | row {A:Type} (R:Rep A) (xs:List A)
 | box (es:List TE)
 | mp {A B:Type} (Q:Rep A) (R:Rep B) (es:List (A×B))
 | cb (bs:List Nat) (ok:Store->za->Prop)
def Stab (bs:List Nat) (ok:Store->za->Prop):Prop:=∀ z z' h h',z.le z'->(∀ b∈bs,h'.get b=h.get b)->ok z h->ok z' h'
def Obj.ok (z:Store) (h:za):Obj->ze->Prop
 | .row R xs,v=>xs.length<=maxLen/\((v=.nilslice/\xs=[])\/∃ b off cap cells,v=.slice b off xs.length R.sz cap/\h.get b=some (.arr cells false)/\off+xs.length*R.sz<=cells.length /\
  (∀ c,cap=some c->xs.length<=c/\off+c*R.sz<=cells.length)/\∀ i x,xs[i]?=some x->R.rel z ((cells.drop (off+i*R.sz)).take R.sz) x)
 | .box es,v=>∃ b cells,v=.ptr b 0/\h.get b=some (.arr cells false)/\zz z es cells/\cells.all ze.one=true
 | .mp Q R es,v=>∃ b l,v=.map b/\h.get b=some (.mp l)/\l.length=es.length/\∀ (i:Nat) (p:ze×ze) (q:_×_),l[i]?=some p->es[i]?=some q->TV Q z p.1 q.1/\TV R z p.2 q.2
 | .cb bs ok,_=>ok z h/\Stab bs ok
def zhP:ze->Option Nat
 | .slice b _ _ _ _=>some b
 | .ptr b _=>some b
 | .map b=>some b
 | _=>none
def zeA (p:ze×Obj):List Nat:=match p.2 with
 | .cb bs _=>bs
 | _=>(zhP p.1).toList
def zrw:Obj->Bool
 | .cb _ _=>false
 | _=>true
theorem zlh {v:ze} {o:Obj} (h:zrw o=true):zeA (v,o)=(zhP v).toList:=by cases o<;>first | rfl | cases h
theorem Obj.ok_mono {z z':Store} {h h':za} {o:Obj} {v:ze} (hz:z.le z') (hs:∀ b,b∈zeA (v,o)->h'.get b=h.get b) (q:o.ok z h v):o.ok z' h' v:=by
 cases o with
 | row R xs=>
  obtain ⟨q0,q⟩:=q;refine ⟨q0, ?_⟩;rcases q with q | ⟨b,off,cap,cells,rfl,q2,q3,q4,q5⟩
  . exact .inl q
  . exact .inr ⟨b,off,cap,cells,rfl,by rw [hs b (by simp [zeA,zhP])]; exact q2,q3,q4,λi x hx=>R.mono _ _ _ _ hz (q5 i x hx)⟩
 | box es=>
  obtain ⟨b,cells,rfl,q2,q3,q4⟩:=q;exact ⟨b,cells,rfl,by rw [hs b (by simp [zeA,zhP])]; exact q2,zdg hz q3,q4⟩
 | mp Q R es=>
  obtain ⟨b,l,rfl,q2,q3,q4⟩:=q;exact ⟨b,l,rfl,by rw [hs b (by simp [zeA,zhP])]; exact q2,q3,λi p q hp hq=>⟨(q4 i p q hp hq).1.mono hz,(q4 i p q hp hq).2.mono hz⟩⟩
 | cb bs ok=>exact ⟨q.2 z z' h h' hz hs q.1,q.2⟩
abbrev Own:=List (ze×Obj)
def blks (L:Own):List Nat:=L.flatMap zeA
theorem z8 (p:ze×Obj) (L:Own):blks (p::L)=zeA p++blks L:=by simp [blks]
theorem za1 {L:Own} {b:Nat}:b∈blks L↔∃ p∈L,b∈zeA p:=by simp [blks,List.mem_flatMap]
structure Ctx where
 z0:Store
 h0:za
 B0:List Nat
structure zfk (C:Ctx) (z:Store) (h:za) (L:Own):Prop where
 ok:∀ p∈L,p.2.ok z h p.1
 out:∀ p∈L,∀ b,b∈zeA p->z b=none/\b<h.next/\(C.h0.next<=b\/b∈C.B0)
 nodup:(blks L).Nodup
structure Chg (C:Ctx) (h:za):Prop where
 next:C.h0.next<=h.next
 same:∀ b,b<C.h0.next->b∉C.B0->h.get b=C.h0.get b
 wm:∀ m,m<=C.h0.wm->m<=C.h0.next->(∀ b∈C.B0,m<=b)->m<=h.wm
 ok:h.wm<=h.next
structure StZ (C:Ctx) (Γ:Env) (L:Own) (z:Store) (fr:zf) (h:za):Prop where
 zle:C.z0.le z
 sub:z.Sub h
 old:∀ b,b<C.h0.next->b∉C.B0->z b=C.z0 b
 fr:zhz z Γ fr
 own:zfk C z h L
 chg:Chg C h
def St (C:Ctx) (Γ:Env) (L:Own) (fr:zf) (h:za):Prop:=∃ z,StZ C Γ L z fr h
theorem StZ.low {C:Ctx} {Γ:Env} {L:Own} {z:Store} {fr:zf} {h:za} (s:StZ C Γ L z fr h) {x:Nat} (h1:x<=h.next) (h2:∀ m,m<=C.h0.wm->m<=C.h0.next->(∀ b∈C.B0,m<=b)->m<=x):StZ C Γ L z fr (lay h x):=
 ⟨s.zle,s.sub,s.old,s.fr,⟨λp hp=>Obj.ok_mono (h:=h) (h':=Go.Ai.lay h x) (.refl _) (λ_ _=>rfl) (s.own.ok p hp),s.own.out,s.own.nodup⟩,⟨s.chg.next,s.chg.same,h2,h1⟩⟩
theorem StZ.set {C:Ctx} {Γ:Env} {L:Own} {z:Store} {fr:zf} {h:za} (s:StZ C Γ L z fr h) {d:Nat} {e:TE} {v:ze} (q:e.ok z v):StZ C ((d,e)::Γ) L z (Tr.set fr d v) h:=
 { s with fr:=s.fr.set q }
def picks (L:Own):List Nat->Own
 | []=>[]
 | i::is=>match L[i]? with
  | some p=>p::picks L is
  | none=>picks L is
theorem zdu {L:Own}:∀ {is:List Nat} {p:ze×Obj},p∈picks L is->∃ i∈is,L[i]?=some p
 | [],_,h=>by cases h
 | i::is,p,h=>by
  simp only [picks] at h;cases hi:L[i]? with
  | none=>rw [hi] at h; obtain ⟨j,h1,h2⟩:=zdu h; exact ⟨j,List.mem_cons_of_mem _ h1,h2⟩
  | some q=>
   rw [hi] at h;rcases List.mem_cons.1 h with rfl | h
   ·exact ⟨i,List.mem_cons_self ..,hi⟩
   ·obtain ⟨j,h1,h2⟩:=zdu h; exact ⟨j,List.mem_cons_of_mem _ h1,h2⟩
theorem zdh {L:Own} (hn:(blks L).Nodup):∀ {i j:Nat} {p q:ze×Obj} {b:Nat},L[i]?=some p->L[j]?=some q->b∈zeA p->b∈zeA q->i=j:=by
 induction L with
 | nil=>intro i j p q b h; simp at h
 | cons a L ih=>
  intro i j p q b hi hj hp hq;rw [z8] at hn;have hn':(blks L).Nodup:=(List.nodup_append.1 hn).2.1;have key:∀ {k:Nat} {p:ze×Obj},L[k]?=some p->b∈zeA p->b∈zeA a->False:=by
   intro k p hk hp ha;exact (List.nodup_append.1 hn).2.2 b ha b (za1.2 ⟨p,List.mem_of_getElem? hk,hp⟩) rfl
  cases i with
  | zero=>
   simp at hi; subst hi;cases j with
   | zero=>rfl
   | succ j=>exact (key (by simpa using hj) hq hp).elim
  | succ i=>
   cases j with
   | zero=>simp at hj; subst hj; exact (key (by simpa using hi) hp hq).elim
   | succ j=>exact congrArg (·+1) (ih (i:=i) (j:=j) hn' (by simpa using hi) (by simpa using hj) hp hq)
theorem zyf {L:Own} (hn:(blks L).Nodup) {p:ze×Obj} (hp:p∈L):(zeA p).Nodup:=by
 induction L with
 | nil=>cases hp
 | cons a L ih=>
  rw [z8] at hn;rcases List.mem_cons.1 hp with rfl | hp
  . exact (List.nodup_append.1 hn).1
  . exact ih (List.nodup_append.1 hn).2.1 hp
theorem zcm {L:Own} (hn:(blks L).Nodup):∀ {is:List Nat},is.Nodup->(blks (picks L is)).Nodup
 | [],_=>by simp [picks,blks]
 | i::is,h=>by
  simp only [picks];have ih:=zcm hn (List.nodup_cons.1 h).2;cases hi:L[i]? with
  | none=>exact ih
  | some p=>
   show (blks (p::picks L is)).Nodup;rw [z8];refine List.nodup_append.2 ⟨zyf hn (List.mem_of_getElem? hi),ih,λb hb c hc e=>?_⟩;subst e;obtain ⟨q,hq1,hq2⟩:=za1.1 hc;obtain ⟨j,hj1,hj2⟩:=zdu hq1;have:=zdh hn hi hj2 hb hq2;subst this;exact (List.nodup_cons.1 h).1 hj1
theorem St.pick {C:Ctx} {Γ Γ':Env} {L L':Own} {fr:zf} {h:za} (s:St C Γ L fr h) (is:List Nat) (q:zlW Γ Γ') (hL:picks L is=L') (hn:is.Nodup):St C Γ' L' fr h:=by
 subst hL;obtain ⟨z,s⟩:=s;refine ⟨z,{ s with fr:=λt e hl=>s.fr t e (q.sub t e hl),own:=⟨λp hp=>?_,λp hp=>?_,zcm s.own.nodup hn⟩ }⟩
 . obtain ⟨i,_,h2⟩:=zdu hp;exact s.own.ok p (List.mem_of_getElem? h2)
 . obtain ⟨i,_,h2⟩:=zdu hp;exact s.own.out p (List.mem_of_getElem? h2)
end Go.Ai.Sx
/- Symbolic runs of the abstract interpreter: operations one by one. -/
namespace Go.Ai.Sx
open Option renaming bind->Zb,bind_some->Zs
def wX (T:Tab) (ops:List Oper):List Oper->zf->za->(zf->za->Prop)->Prop
 | [],fr,h,Q=>Q fr h
 | o::rest,fr,h,Q=>
  match awanted ops fr o.guard with
  | some true=>(match aop T fr.op h o.op with
   | some (.val v h')=>wX T ops rest (putDst fr o.dst v) h' Q
   | some (.call f vs)=>zja T f vs h λr h1=>∃ v,r=.ret v/\wX T ops rest (putDst fr o.dst v) h1 Q
   | none=>False)
  | some false=>wX T ops rest (putDst fr o.dst unit) h Q
  | none=>False
theorem zhQ {T:Tab} {ops:List Oper}:∀ {rest:List Oper} {fr:zf} {h:za} {Q:zab->zf->za->Prop},wX T ops rest fr h (Q .normal)->Ops T ops rest fr h Q
 | [],_,_,_,w=>zwl w
 | o::rest,fr,h,Q,w=>by
  simp only [wX] at w;split at w
  . rename_i hw;split at w
    . rename_i ha; exact zlR hw ha (zhQ w)
    . rename_i ha; exact ztR hw ha (w.mono λr h' ⟨v,e,w⟩=>⟨v,e,zhQ w⟩)
    . exact w.elim
  . rename_i hw; exact ztQ hw (zhQ w)
  . exact w.elim
def zlX (ops:List Oper) (i:Nat):Bool:=(ops.take (i+1)).all λo=>zgz o.op
def zgU (b:List Nat):Nat->Bool
 | 0=>true
 | n+1=>b.contains n&&zgU b n
def zgb:Op->Bool
 | .alloc _ | .box _ _=>true
 | _=>false
def notCall:Op->Bool
 | .call _=>false
 | _=>true
def zpp (ops:List Oper) (t:Nat):Nat->Option Nat
 | 0=>none
 | j+1=>match ops[j]? with
  | some o=>bif (match o.dst with | some t'=>Nat.beq t' t | none=>false) then (bif zgb o.op&&o.guard.isNone&&((ops.drop (j+1)).all λq=>match q.dst with | some t'=>!Nat.beq t' t | none=>true) then some j else none) else zpp ops t j
  | none=>none
def zlY (ops:List Oper) (i:Nat):Bool:=
 match ops[i]? with
 | some o=>match o.op with
  | .store _ (.tmp t) _=>match zpp ops t i with
   | some j=>match zcc ops i with
    | b=>(List.range i).all λp=>b.contains p||(Nat.blt p j&&(match ops[p]? with | some q=>notCall q.op | none=>false))
   | none=>false
  | _=>false
 | none=>false
def zcZ:Op->Bool
 | .load _ _ | .store _ _ _ | .lookup _ _ _ _ | .mapUpdate _ _ _ _ | .insert _ _ _ _=>false
 | .call c=>(match c.callee with | .builtin .len | .builtin .append | .builtin .copy=>false | .builtin _=>true | _=>false)
 | _=>true
def zor:Op->Bool
 | .call c=>(match c.callee with | .builtin .len=>true | _=>false)
 | _=>false
def zna:Op->Bool
 | .load _ _=>true
 | _=>false
def zis (o:Op):Bool:=zcZ o||zor o
def zeh (ol:List Nat) (i:Nat) (o:Op):Bool:=zcZ o||((zor o||zna o)&&!ol.contains i)
def zjR:Op->Bool
 | .store _ _ _ | .mapUpdate _ _ _ _ | .insert _ _ _ _=>true
 | .call c=>(match c.callee with | .builtin .append=>true | _=>false)
 | _=>false
def zlZ (ops:List Oper) (ol:List Nat) (i:Nat):Bool:=
 match ops[i]? with
 | some o=>zcZ o.op||(zjR o.op&&(match zcc ops i with
  | b=>(List.range i).all λp=>b.contains p||(match ops[p]? with | some q=>zeh ol p q.op | none=>false)))
 | none=>false
def zhl:Op->Bool
 | .call c=>(match c.callee with | .builtin .append=>true | _=>false)
 | _=>false
def zei (ol:List Nat):List Nat:=ol.filterMap λx=>bif Nat.ble 1000000 x&&Nat.blt x 2000000 then some (x-1000000) else none
def zcf (ol:List Nat):List Nat:=zei ol++ol.filterMap λx=>bif Nat.ble 2000000 x then some (x-2000000) else none
def zfl (ops:List Oper) (r:Nat):Bool:=ops.all λo=>match o.dst with | some t=>!Nat.beq t r | none=>true
def zi0 (ops:List Oper) (a j:Nat):Bool:=(List.range ops.length).all λk=>Nat.beq k j||(match ops[k]? with | some o=>(match o.dst with | some t=>!Nat.beq t a | none=>true) | none=>true)
def zjS:Op->Option Nat
 | .fieldAddr _ (.tmp r) _=>some r
 | .nilCheck (.tmp r)=>some r
 | .move (.tmp r)=>some r
 | _=>none
def zg8 (ops:List Oper):Nat->Nat->Option Nat
 | 0,_=>none
 | j+1,a=>match ops[j]? with
  | some o=>(match zjS o.op,o.dst with
   | some r,some t=>bif Nat.beq t a&&zi0 ops a j then (bif zfl ops r then some r else zg8 ops j r) else zg8 ops j a
   | _,_=>zg8 ops j a)
  | none=>none
def zkJ (ops:List Oper) (i a:Nat):Option Nat:=bif zfl ops a then some a else zg8 ops i a
def znb (ops:List Oper) (ol:List Nat) (p:Nat) (q:Oper):Option Nat:=match q.op with
 | .load _ (.tmp a)=>(match zkJ ops p a with | some r=>bif (zcf ol).contains r then some r else none | none=>none)
 | _=>none
def znc (ops:List Oper) (ol:List Nat) (p:Nat) (q:Oper):Option Nat:=match q.op with
 | .store _ (.tmp a) _=>(match zkJ ops p a with | some r=>bif (zei ol).contains r then some r else none | none=>none)
 | _=>none
def othr (r:Nat):Option Nat->Bool
 | some r'=>!Nat.beq r' r
 | none=>false
def zpq (ops:List Oper) (ol:List Nat) (i:Nat):Bool:=
 match ops[i]? with
 | some o=>match zcc ops i with
  | b=>((match znb ops ol i o with | some r=>(List.range i).all λp=>b.contains p||(match ops[p]? with | some q=>(zgz q.op||zhl q.op)||othr r (znc ops ol p q) | none=>false) | none=>false) ||
   (zhl o.op&&(List.range i).all λp=>b.contains p||(match ops[p]? with | some q=>zeh ol p q.op||(znb ops ol p q).isSome | none=>false))) ||
   (match znc ops ol i o with | some r=>(List.range i).all λp=>b.contains p||(match ops[p]? with | some q=>zeh ol p q.op||(othr r (znb ops ol p q)||othr r (znc ops ol p q)) | none=>false) | none=>false)
 | none=>false
def znd (ops:List Oper) (ol:List Nat):Nat->Bool
 | 0=>true
 | n+1=>(zlX ops n||zgU (zcc ops n) n||zlY ops n||zlZ ops ol n||zpq ops ol n)&&znd ops ol n
theorem zi1 {b:List Nat}:∀ {n:Nat},zgU b n=true->∀ j,j<n->b.contains j=true
 | 0,_,j,hj=>by omega
 | n+1,h,j,hj=>by
  simp only [zgU,Bool.and_eq_true] at h;by_cases e:j=n
  . subst e; exact h.1
  . exact zi1 h.2 j (by omega)
theorem zgA {ops:List Oper} {ol:List Nat}:∀ {n:Nat},znd ops ol n=true->∀ i,i<n->zlX ops i=true\/zgU (zcc ops i) i=true\/zlY ops i=true\/zlZ ops ol i=true\/zpq ops ol i=true
 | 0,_,i,hi=>by omega
 | n+1,h,i,hi=>by
  simp only [znd,Bool.and_eq_true,Bool.or_eq_true] at h;by_cases e:i=n
  . subst e;rcases h.1 with (((q | q) | q) | q) | q
    . exact .inl q
    . exact .inr (.inl q)
    . exact .inr (.inr (.inl q))
    . exact .inr (.inr (.inr (.inl q)))
    . exact .inr (.inr (.inr (.inr q)))
  . exact zgA h.2 i (by omega)
theorem zli {ops:List Oper} {t:Nat}:∀ {i j:Nat},zpp ops t i=some j->j<i/\∃ o,ops[j]?=some o/\o.dst=some t/\zgb o.op=true/\o.guard=none/\∀ k q,j<k->ops[k]?=some q->q.dst≠some t
 | 0,_,h=>by cases h
 | i+1,j,h=>by
  simp only [zpp] at h;split at h
  ·rename_i o ho;cases hb:(match o.dst with | some t'=>Nat.beq t' t | none=>false) with
   | true=>
    rw [hb] at h;simp only [cond_true] at h;have hd:o.dst=some t:=by
     split at hb
     ·rename_i t' e; rw [e,Nat.eq_of_beq_eq_true hb]
     ·cases hb
    cases hc:(zgb o.op&&o.guard.isNone&&((ops.drop (i+1)).all λq=>match q.dst with | some t'=>!Nat.beq t' t | none=>true)) with
    | false=>rw [hc] at h; cases h
    | true=>
     rw [hc] at h;cases h;simp only [Bool.and_eq_true] at hc;refine ⟨Nat.lt_succ_self _,o,ho,hd,hc.1.1,by simpa using hc.1.2,λk q hk hq e=>?_⟩;have:=List.all_eq_true.1 hc.2 q (List.mem_of_getElem? (i:=k-(i+1)) (by rw [List.getElem?_drop]; rw [show i+1+(k-(i+1))=k by omega]; exact hq));rw [e] at this;simp at this
   | false=>
    rw [hb] at h;obtain ⟨h1,h2⟩:=zli (i:=i) h;exact ⟨Nat.lt_succ_of_lt h1,h2⟩
  ·cases h
def zpr (ops:List Oper) (ol:List Nat) (i:Nat) (fr:zf) (done:List (Nat×Foot)):Prop:=
 (∀ j o r a,j<i->ops[j]?=some o->zjS o.op=some r->o.dst=some a->(zfl ops r=true\/∃ k,k<j/\zi0 ops r k=true)->zi0 ops a j=true->∀ x∈zK (fr.ev a),x∈zK (fr.ev r)) /\
 (∀ r∈zcf ol,zfl ops r=true->∀ p∈done,∀ o,ops[p.1]?=some o->zhl o.op=true->∀ x∈zK (fr.ev r),x∉p.2.wr) /\
 (∀ p∈done,∀ o t a,ops[p.1]?=some o->o.op=.load t (.tmp a)->∀ r,zkJ ops p.1 a=some r->∀ x∈p.2.rd,x∈zK (fr.ev r)) /\
 (∀ p∈done,∀ o t a y,ops[p.1]?=some o->o.op=.store t (.tmp a) y->p.2.rd=[]/\∀ r,zkJ ops p.1 a=some r->∀ x∈p.2.wr,x∈zK (fr.ev r)) /\
 ∀ r∈zei ol,∀ r'∈zcf ol,r≠r'->zfl ops r=true->zfl ops r'=true->∀ x∈zK (fr.ev r),x∉zK (fr.ev r')
def zlj (ops:List Oper) (ol:List Nat) (z:Store) (i:Nat) (fr:zf) (h:za) (done:List (Nat×Foot)):Prop:=
 (∀ p∈done,p.1<i/\p.2.wall=false/\(∀ o,ops[p.1]?=some o->zgz o.op=true->p.2.wr=[])/\(∀ o,ops[p.1]?=some o->notCall o.op=true->p.2.rall=false)/\(∀ b,b∈p.2.rd\/b∈p.2.wr->b<h.next) /\
  ∀ o,ops[p.1]?=some o->zeh ol p.1 o.op=true->p.2.wr=[]/\p.2.rall=false/\(∀ b,b∈p.2.rd->z b≠none)/\(zis o.op=true->p.2.rd=[])) /\
 (∀ j o t,j<i->ops[j]?=some o->zgb o.op=true->o.guard=none->o.dst=some t->(∀ k q,j<k->ops[k]?=some q->q.dst≠some t)->∃ b,fr.ev t=.ptr b 0/\∀ p∈done,p.1<j->∀ c,c∈p.2.rd\/c∈p.2.wr->c<b)/\zpr ops ol i fr done
structure zi2 (z:Store) (h:za) (f:Foot):Prop where
 rd:∀ b,b∈f.rd->b<h.next
 wr:∀ b,b∈f.wr->b<h.next/\z b=none
theorem zej {ops:List Oper} {r:Nat} (h:zfl ops r=true) {i:Nat} {o:Oper} (hi:ops[i]?=some o):o.dst≠some r:=by
 intro e;have:=List.all_eq_true.1 h o (List.mem_of_getElem? hi);rw [e] at this;simp at this
theorem zlk {ops:List Oper} {a j:Nat} (h:zi0 ops a j=true) {k:Nat} {o:Oper} (hk:ops[k]?=some o) (hne:k≠j):o.dst≠some a:=by
 intro e;have:=List.all_eq_true.1 h k (List.mem_range.2 (List.getElem?_eq_some_iff.1 hk).1);rw [hk] at this;simp [hne,e] at this
theorem zgV {ops:List Oper} {r:Nat}:∀ {i a:Nat},zg8 ops i a=some r->zfl ops r=true/\∃ j o r',j<i/\ops[j]?=some o/\zjS o.op=some r'/\o.dst=some a/\zi0 ops a j=true/\(zfl ops r'=true/\r'=r\/zg8 ops j r'=some r)
 | 0,_,h=>by cases h
 | i+1,a,h=>by
  have up:zg8 ops i a=some r->zfl ops r=true/\∃ j o r',j<i+1/\ops[j]?=some o/\zjS o.op=some r'/\o.dst=some a/\zi0 ops a j=true/\(zfl ops r'=true/\r'=r\/zg8 ops j r'=some r):=λq=>by
   obtain ⟨h0,j,o,r',h1,h2⟩:=zgV (i:=i) q;exact ⟨h0,j,o,r',by omega,h2⟩
  simp only [zg8] at h;split at h
  ·rename_i o ho;split at h
   ·rename_i r' t e1 e2;cases hb:(Nat.beq t a&&zi0 ops a i) with
    | true=>
     rw [hb,cond_true] at h;rw [Bool.and_eq_true] at hb;have hd:o.dst=some a:=by rw [e2,Nat.eq_of_beq_eq_true hb.1]
     cases hf:zfl ops r' with
     | true=>
      rw [hf] at h;cases h;exact ⟨hf,i,o,_,Nat.lt_succ_self _,ho,e1,hd,hb.2,.inl ⟨hf,rfl⟩⟩
     | false=>
      rw [hf] at h;exact ⟨(zgV (i:=i) h).1,i,o,r',Nat.lt_succ_self _,ho,e1,hd,hb.2,.inr h⟩
    | false=>rw [hb] at h; exact up h
   ·exact up h
  ·cases h
theorem zcn {ops:List Oper} {i a r:Nat} (h:zkJ ops i a=some r):zfl ops r=true:=by
 unfold zkJ at h;cases hf:zfl ops a with
 | true=>rw [hf] at h; cases h; exact hf
 | false=>
  rw [hf] at h;exact (zgV h).1
theorem zqq {ops:List Oper} {ol:List Nat} {i:Nat} {fr:zf} {done:List (Nat×Foot)} (h:zpr ops ol i fr done) {r:Nat}:∀ {j a:Nat},j<=i->zg8 ops j a=some r->(∀ x∈zK (fr.ev a),x∈zK (fr.ev r))/\∃ k,k<j/\zi0 ops a k=true:=by
 intro j;induction j using Nat.strongRecOn with
 | _ j ih=>
  intro a hj hr;obtain ⟨_,k,o,r',h1,h2,h3,h4,h5,h6⟩:=zgV hr;refine ⟨?_,k,h1,h5⟩;rcases h6 with ⟨h7,rfl⟩ | h6
  . exact h.1 k o r' a (by omega) h2 h3 h4 (.inl h7) h5
  . obtain ⟨g1,k',g2,g3⟩:=ih k h1 (by omega) h6;exact λx hx=>g1 x (h.1 k o r' a (by omega) h2 h3 h4 (.inr ⟨k',g2,g3⟩) h5 x hx)
theorem zpr.at {ops:List Oper} {ol:List Nat} {i:Nat} {fr:zf} {done:List (Nat×Foot)} (h:zpr ops ol i fr done) {a r j:Nat} (hj:j<=i) (hr:zkJ ops j a=some r):∀ x∈zK (fr.ev a),x∈zK (fr.ev r):=by
 unfold zkJ at hr;cases hf:zfl ops a with
 | true=>rw [hf] at hr; cases hr; exact λx hx=>hx
 | false=>
  rw [hf] at hr;exact (zqq h hj hr).1
theorem zit {ops:List Oper} {ol:List Nat} {p r:Nat} {q:Oper} (h:znb ops ol p q=some r):∃ t a,q.op=.load t (.tmp a)/\zkJ ops p a=some r/\r∈zcf ol:=by
 unfold znb at h;split at h
 . rename_i t a e;split at h
   . rename_i r' hr;cases hc:(zcf ol).contains r' with
     | true=>
      rw [hc] at h;cases h;exact ⟨t,a,e,hr,by simpa using hc⟩
     | false=>rw [hc] at h; cases h
   . cases h
 . cases h
theorem ziu {ops:List Oper} {ol:List Nat} {p r:Nat} {q:Oper} (h:znc ops ol p q=some r):∃ t a y,q.op=.store t (.tmp a) y/\zkJ ops p a=some r/\r∈zei ol:=by
 unfold znc at h;split at h
 . rename_i t a y e;split at h
   . rename_i r' hr;cases hc:(zei ol).contains r' with
     | true=>
      rw [hc] at h;cases h;exact ⟨t,a,y,e,hr,by simpa using hc⟩
     | false=>rw [hc] at h; cases h
   . cases h
 . cases h
theorem zl0 {r:Nat} {o:Option Nat} (h:othr r o=true):∃ r',o=some r'/\r'≠r:=by
 unfold othr at h;split at h
 . rename_i r';refine ⟨r',rfl,λe=>?_⟩;rw [e] at h;simp at h
 . cases h
theorem zne {ol:List Nat} {r:Nat} (h:r∈zei ol):r∈zcf ol:=List.mem_append_left _ h
theorem zfB {ops:List Oper} {i:Nat} {f:Foot} {done:List (Nat×Foot)} {o:Oper} {ol:List Nat} {z:Store} {fr:zf} {h:za} (hi:ops[i]?=some o) (hd:zlj ops ol z i fr h done) (hok:zlX ops i=true\/zgU (zcc ops i) i=true\/zlY ops i=true\/zlZ ops ol i=true\/zpq ops ol i=true) (hf:f.wall=false) (hfo:zi2 z h f) (hnf:zcZ o.op=true->f=⟨[],false,[],false⟩) (how:zjR o.op=true->f.rall=false) (hf':zgz o.op=true->f.wr=[])
 (hst:∀ t et y,o.op=.store et (.tmp t) y->f=⟨[],false,zK (fr.ev t),false⟩) (hld:∀ t a,o.op=.load t (.tmp a)->f=⟨zK (fr.ev a),false,[],false⟩) (hap:zhl o.op=true->∀ r∈zcf ol,∀ x∈zK (fr.ev r),x∉f.wr):zca ops i f done=true:=by
 rcases hok with hq | hc | hs | hs | hs
 . unfold zlX at hq;rw [List.all_eq_true] at hq;have at':∀ j o',j<=i->ops[j]?=some o'->zgz o'.op=true:=by
    intro j o' hj ho;refine hq o' (List.mem_of_getElem? (i:=j) ?_);rw [List.getElem?_take,if_pos (by omega)]; exact ho
   refine zlU (λp hp=>?_) (hf' (at' i o (Nat.le_refl _) hi)) hf;obtain ⟨h1,h2,h3,_⟩:=hd.1 p hp;have hlt:p.1<ops.length:=Nat.lt_trans h1 (List.getElem?_eq_some_iff.1 hi).1;exact ⟨h3 _ (List.getElem?_eq_getElem hlt) (at' p.1 _ (by omega) (List.getElem?_eq_getElem hlt)),h2⟩
 . unfold zca;by_cases h:(done.all λp=>p.2.apart f)=true
   . rw [if_pos h]
   . rw [if_neg h];refine List.all_eq_true.2 λp hp=>?_;rw [Bool.or_eq_true];exact .inr (zi1 hc _ (hd.1 p hp).1)
 . unfold zca;by_cases h:(done.all λp=>p.2.apart f)=true
   . rw [if_pos h]
   . rw [if_neg h];refine List.all_eq_true.2 λp hp=>?_;rw [Bool.or_eq_true];unfold zlY at hs;rw [hi] at hs;simp only at hs;split at hs
     . rename_i et t y hop;split at hs
       . rename_i j hj;obtain ⟨hji,oj,hj1,hj2,hj3,hj4,hj5⟩:=zli hj;obtain ⟨g1,g2,g3,g4,g5,g6⟩:=hd.1 p hp;have:=List.all_eq_true.1 hs p.1 (List.mem_range.2 g1);rw [Bool.or_eq_true] at this;rcases this with q | q
         . exact .inr q
         . left;rw [Bool.and_eq_true] at q;have hpj:p.1<j:=by
            have:=q.1;simp only [Nat.blt_eq] at this;exact this
           have hlt:p.1<ops.length:=Nat.lt_trans g1 (List.getElem?_eq_some_iff.1 hi).1;have hr:=g4 _ (List.getElem?_eq_getElem hlt) (by have:=q.2; rw [List.getElem?_eq_getElem hlt] at this; exact this);obtain ⟨b,hb1,hb2⟩:=hd.2.1 j oj t hji hj1 hj3 hj4 hj2 hj5;have hfe:=hst t et y hop;rw [hb1] at hfe;subst hfe;have n1:∀ l:List Nat,(∀ c,c∈l->c<b)->disj l (zK (.ptr b 0))=true:=by
            intro l hl;unfold disj;refine List.all_eq_true.2 λc hc=>?_;have:=hl c hc;simp [zK]; omega
           have d0:∀ l:List Nat,disj l []=true:=λl=>by simp [disj]
           unfold Foot.apart;rw [n1 _ (λc hc=>hb2 p hp hpj c (.inr hc)),n1 _ (λc hc=>hb2 p hp hpj c (.inl hc)),g2,hr];simp [d0]
       . cases hs
     . cases hs
 . unfold zca;by_cases h:(done.all λp=>p.2.apart f)=true
   . rw [if_pos h]
   . rw [if_neg h];refine List.all_eq_true.2 λp hp=>?_;rw [Bool.or_eq_true];obtain ⟨g1,g2,g3,g4,g5,g6⟩:=hd.1 p hp;have hlt:p.1<ops.length:=Nat.lt_trans g1 (List.getElem?_eq_some_iff.1 hi).1;have d0:∀ l:List Nat,disj l []=true:=λl=>by simp [disj]
     have d1:∀ l:List Nat,disj [] l=true:=λl=>rfl;unfold zlZ at hs;rw [hi] at hs;simp only [Bool.or_eq_true,Bool.and_eq_true] at hs;rcases hs with q | ⟨q1,q2⟩
     . left;rw [hnf q];unfold Foot.apart;simp [d0,g2]
     . have:=List.all_eq_true.1 q2 p.1 (List.mem_range.2 g1);rw [Bool.or_eq_true] at this;rcases this with q | q
       . exact .inr q
       . left;rw [List.getElem?_eq_getElem hlt] at q;obtain ⟨k1,k2,k3,_⟩:=g6 _ (List.getElem?_eq_getElem hlt) q;have e:disj p.2.rd f.wr=true:=by
          unfold disj;refine List.all_eq_true.2 λc hc=>?_;have:=k3 c hc;simp only [Bool.not_eq_true',List.contains_eq_mem,decide_eq_false_iff_not];intro hm;exact this (hfo.wr c hm).2
         unfold Foot.apart;rw [k1,k2,g2,hf,how q1,e];simp [d1]
 . unfold zca;by_cases h:(done.all λp=>p.2.apart f)=true
   . rw [if_pos h]
   . rw [if_neg h];refine List.all_eq_true.2 λp hp=>?_;rw [Bool.or_eq_true];obtain ⟨g1,g2,g3,g4,g5,g6⟩:=hd.1 p hp;have hlt:p.1<ops.length:=Nat.lt_trans g1 (List.getElem?_eq_some_iff.1 hi).1;have hpe:=List.getElem?_eq_getElem hlt;have d0:∀ l:List Nat,disj l []=true:=λl=>by simp [disj]
     have d1:∀ l:List Nat,disj [] l=true:=λl=>rfl;have dj:∀ a b:List Nat,(∀ x∈a,x∉b)->disj a b=true:=λa b q=>by
      unfold disj;exact List.all_eq_true.2 λx hx=>by simpa using q x hx
     unfold zpq at hs;rw [hi] at hs;simp only [Bool.or_eq_true,Bool.and_eq_true] at hs;have hdist:=hd.2.2.2.2.2.2;rcases hs with (hs | ⟨q1,q2⟩) | hs
     . split at hs
       case h_2=>cases hs
       rename_i r hr;have:=List.all_eq_true.1 hs p.1 (List.mem_range.2 g1);rw [Bool.or_eq_true] at this;rcases this with q | q
       . exact .inr q
       . left;rw [hpe] at q;obtain ⟨t,a,e1,e2,e3⟩:=zit hr;have hfe:=hld t a e1;have hsub:=hd.2.2.at (Nat.le_refl _) e2;have hwr:disj p.2.wr f.rd=true:=by
          simp only [Bool.or_eq_true] at q;rcases q with (q | q) | q
          . rw [g3 _ hpe q]; exact d1 _
          . refine dj _ _ λx hx hxr=>?_;rw [hfe] at hxr;exact hd.2.2.2.1 r e3 (zcn e2) p hp _ hpe q x (hsub x hxr) hx
          . obtain ⟨r',k1,k2⟩:=zl0 q;obtain ⟨t',a',y',c1,c2,c3⟩:=ziu k1;refine dj _ _ λx hx hxr=>?_;rw [hfe] at hxr;exact hdist r' c3 r e3 k2 (zcn c2) (zcn e2) x ((hd.2.2.2.2.2.1 p hp _ t' a' y' hpe c1).2 r' c2 x hx) (hsub x hxr)
         rw [hfe] at hwr ⊢;unfold Foot.apart;rw [hwr,g2];simp [d0]
     . have:=List.all_eq_true.1 q2 p.1 (List.mem_range.2 g1);rw [Bool.or_eq_true] at this;rcases this with q | q
       . exact .inr q
       . left;rw [hpe,Bool.or_eq_true] at q;have ⟨k1,k2,k3⟩:p.2.wr=[]/\p.2.rall=false/\disj p.2.rd f.wr=true:=by
          rcases q with q | q
          . obtain ⟨k1,k2,k3,_⟩:=g6 _ hpe q;exact ⟨k1,k2,dj _ _ λc hc hm=>k3 c hc (hfo.wr c hm).2⟩
          . obtain ⟨r,hr⟩:=Option.isSome_iff_exists.1 q;obtain ⟨t,a,e1,e2,e3⟩:=zit hr;refine ⟨g3 _ hpe (by rw [e1]; rfl),g4 _ hpe (by rw [e1]; rfl),dj _ _ λc hc hm=>?_⟩;exact hap q1 r e3 c (hd.2.2.2.2.1 p hp _ t a hpe e1 r e2 c hc) hm
         have hfr:f.rall=false:=how (by
          unfold zhl at q1;split at q1
          . rename_i c e;split at q1
            . rename_i e2; rw [e]; simp only [zjR,e2]
            . cases q1
          . cases q1)
         unfold Foot.apart;rw [k1,k2,g2,hf,hfr,k3];simp [d1]
     . split at hs
       case h_2=>cases hs
       rename_i r hr;have:=List.all_eq_true.1 hs p.1 (List.mem_range.2 g1);rw [Bool.or_eq_true] at this;rcases this with q | q
       . exact .inr q
       . left;rw [hpe] at q;obtain ⟨t,a,y,e1,e2,e3⟩:=ziu hr;have hfe:=hst a t y e1;have hsub:=hd.2.2.at (Nat.le_refl _) e2;have ⟨k1,k2,k3⟩:disj p.2.wr f.wr=true/\p.2.rall=false/\disj p.2.rd f.wr=true:=by
          simp only [Bool.or_eq_true] at q;rcases q with q | q | q
          . obtain ⟨k1,k2,k3,_⟩:=g6 _ hpe q;exact ⟨by rw [k1]; exact d1 _,k2,dj _ _ λc hc hm=>k3 c hc (hfo.wr c hm).2⟩
          . obtain ⟨r',c0,c1⟩:=zl0 q;obtain ⟨t',a',c2,c3,c4⟩:=zit c0;refine ⟨by rw [g3 _ hpe (by rw [c2]; rfl)]; exact d1 _,g4 _ hpe (by rw [c2]; rfl),dj _ _ λc hc hm=>?_⟩;rw [hfe] at hm;exact hdist r e3 r' c4 (λe=>c1 e.symm) (zcn e2) (zcn c3) c (hsub c hm) (hd.2.2.2.2.1 p hp _ t' a' hpe c2 r' c3 c hc)
          . obtain ⟨r',c0,c1⟩:=zl0 q;obtain ⟨t',a',y',c2,c3,c4⟩:=ziu c0;obtain ⟨z1,z2⟩:=hd.2.2.2.2.2.1 p hp _ t' a' y' hpe c2;refine ⟨dj _ _ λc hc hm=>?_,g4 _ hpe (by rw [c2]; rfl),by rw [z1]; exact d1 _⟩;rw [hfe] at hm;exact hdist r e3 r' (zne c4) (λe=>c1 e.symm) (zcn e2) (zcn c3) c (hsub c hm) (z2 r' c3 c hc)
         rw [hfe] at k1 k3 ⊢;unfold Foot.apart;rw [k1,k2,k3,g2];simp [d0]
theorem zrx (ev:Operand->ze) {o:Oper} {et:TypeId} {t:Nat} (ho:o.op=.load et (.tmp t)):foot ev o=⟨zK (ev (.tmp t)),false,[],false⟩:=by unfold foot; rw [ho]
theorem zry (ev:Operand->ze) {o:Oper} {et:TypeId} {t:Nat} {y:Operand} (ho:o.op=.store et (.tmp t) y):foot ev o=⟨[],false,zK (ev (.tmp t)),false⟩:=by unfold foot; rw [ho]
theorem zrz (ev:Operand->ze) {o:Oper} (h:notCall o.op=true):(foot ev o).rall=false:=by
 unfold foot;cases ho:o.op<;>rw [ho] at h<;>(try rfl);cases h
theorem zrA {T:Tab} {ev:Operand->ze} {h h':za} {o:Op} {v:ze} (ha:zgb o=true) (hv:aop T ev h o=some (.val v h')):v=.ptr h.next 0/\h'.next=h.next+1:=by
 cases o<;>simp only [zgb] at ha<;>(try (cases ha; done))
 . simp only [aop,zfF] at hv;split at hv
   . cases hv; exact ⟨rfl,rfl⟩
   . cases hv
 . simp only [aop,zjz] at hv;split at hv
   . cases hv
   . cases hv; exact ⟨rfl,rfl⟩
theorem ziv {T:Tab} {ev:Operand->ze} {h:za} {o:Op} {f:ze} {vs:List ze} (ha:zgb o=true) (hv:aop T ev h o=some (.call f vs)):False:=by
 cases o<;>simp only [zgb] at ha<;>(try (cases ha; done))
 . simp only [aop,zfF] at hv;split at hv<;>cases hv
 . simp only [aop,zjz] at hv;split at hv<;>cases hv
theorem zhR {fr:zf} {d:Option Nat} {v:ze} {t:Nat} (h:d≠some t):(putDst fr d v).ev t=fr.ev t:=by
 cases d with
 | none=>rfl
 | some d=>rw [zaI,zf.ev_set,if_neg (λe=>h (by rw [e]))]
theorem zlj.next {ops:List Oper} {ol:List Nat} {z z':Store} {i:Nat} {fr:zf} {h h':za} {done:List (Nat×Foot)} {o:Oper} {v:ze} (hd:zlj ops ol z i fr h done) (hi:ops[i]?=some o) (hz:z.le z') (hn:h.next<=h'.next) (new:List (Nat×Foot))
 (hnew:∀ p∈new,p.1=i/\p.2.wall=false/\(zgz o.op=true->p.2.wr=[])/\(notCall o.op=true->p.2.rall=false)/\(∀ b,b∈p.2.rd\/b∈p.2.wr->b<h'.next)/\(zeh ol i o.op=true->p.2.wr=[]/\p.2.rall=false/\(∀ b,b∈p.2.rd->z b≠none)/\(zis o.op=true->p.2.rd=[])))
 (hal:zgb o.op=true->o.guard=none->∀ t,o.dst=some t->∃ b,(putDst fr o.dst v).ev t=.ptr b 0/\h.next<=b)
 (hfa:∀ r,zjS o.op=some r->∀ x∈zK v,x∈zK (fr.ev r)) (hld:∀ p∈new,∀ t a,o.op=.load t (.tmp a)->∀ x∈p.2.rd,x∈zK (fr.ev a))
 (hap:∀ p∈new,zhl o.op=true->∀ r∈zcf ol,∀ x∈zK (fr.ev r),x∉p.2.wr) (hsw:∀ p∈new,∀ t a y,o.op=.store t (.tmp a) y->p.2.rd=[]/\∀ x∈p.2.wr,x∈zK (fr.ev a)):zlj ops ol z' (i+1) (putDst fr o.dst v) h' (new++done):=by
 have up:∀ b,z b≠none->z' b≠none:=λb hb=>by
  cases e:z b with
  | none=>exact absurd e hb
  | some x=>rw [hz b x e]; exact λq=>by cases q
 refine ⟨λp hp=>?_,λj oj t hj hoj ha hg hdst hu=>?_,λj oj r a hj hoj hop hdst hfx hon=>?_,λr hr hfx p hp oj hoj hia=>?_,λp hp oj t a hoj hop r hrl=>?_,λp hp oj t a y hoj hop=>?_,λr hr r' hr' hne hfx hfx'=>?_⟩
 case refine_3=>
  have hne:o.dst≠some r:=by
   rcases hfx with q | ⟨k,hk,q⟩
   . exact zej q hi
   . exact zlk q hi (by omega)
  rw [zhR hne];by_cases e:j=i
  . subst e;rw [hi] at hoj; cases hoj;rw [hdst,zaI,zf.ev_set,if_pos rfl];exact hfa r hop
  . rw [zhR (zlk hon hi (λq=>e q.symm))];exact hd.2.2.1 j oj r a (by omega) hoj hop hdst hfx hon
 case refine_4=>
  rw [zhR (zej hfx hi)];rcases List.mem_append.1 hp with hp | hp
  . obtain ⟨e,_⟩:=hnew p hp;rw [e,hi] at hoj; cases hoj;exact hap p hp hia r hr
  . exact hd.2.2.2.1 r hr hfx p hp oj hoj hia
 case refine_5=>
  rw [zhR (zej (zcn hrl) hi)];rcases List.mem_append.1 hp with hp | hp
  . obtain ⟨e,_⟩:=hnew p hp;rw [e] at hrl hoj;rw [hi] at hoj; cases hoj;exact λx hx=>hd.2.2.at (Nat.le_refl _) hrl x (hld p hp t a hop x hx)
  . exact hd.2.2.2.2.1 p hp oj t a hoj hop r hrl
 case refine_6=>
  rcases List.mem_append.1 hp with hp | hp
  . obtain ⟨e,_⟩:=hnew p hp;rw [e,hi] at hoj; cases hoj;obtain ⟨z1,z2⟩:=hsw p hp t a y hop;refine ⟨z1,λr hrl x hx=>?_⟩;rw [zhR (zej (zcn hrl) hi)];rw [e] at hrl;exact hd.2.2.at (Nat.le_refl _) hrl x (z2 x hx)
  . obtain ⟨z1,z2⟩:=hd.2.2.2.2.2.1 p hp oj t a y hoj hop;refine ⟨z1,λr hrl x hx=>?_⟩;rw [zhR (zej (zcn hrl) hi)];exact z2 r hrl x hx
 case refine_7=>
  rw [zhR (zej hfx hi),zhR (zej hfx' hi)];exact hd.2.2.2.2.2.2 r hr r' hr' hne hfx hfx'
 . rcases List.mem_append.1 hp with hp | hp
   . obtain ⟨e,h1,h2,h3,h4,h5⟩:=hnew p hp;refine ⟨by omega,h1,λo' ho'=>?_,λo' ho'=>?_,h4,λo' ho' hq=>?_⟩
     . rw [e,hi] at ho'; cases ho'; exact h2
     . rw [e,hi] at ho'; cases ho'; exact h3
     . rw [e] at hq ho'; rw [hi] at ho'; cases ho';obtain ⟨k1,k2,k3,k4⟩:=h5 hq;exact ⟨k1,k2,λb hb=>up b (k3 b hb),k4⟩
   . obtain ⟨h1,h2,h3,h4,h5,h6⟩:=hd.1 p hp;refine ⟨by omega,h2,h3,h4,λb hb=>Nat.lt_of_lt_of_le (h5 b hb) hn,λo' ho' hq=>?_⟩;obtain ⟨k1,k2,k3,k4⟩:=h6 o' ho' hq;exact ⟨k1,k2,λb hb=>up b (k3 b hb),k4⟩
 . by_cases e:j=i
   . subst e;rw [hi] at hoj; cases hoj;obtain ⟨b,h1,h2⟩:=hal ha hg t hdst;refine ⟨b,h1,λp hp hpj c hc=>?_⟩;rcases List.mem_append.1 hp with hp | hp
     . obtain ⟨e,_⟩:=hnew p hp; omega
     . exact Nat.lt_of_lt_of_le ((hd.1 p hp).2.2.2.2.1 c hc) h2
   . obtain ⟨b,h1,h2⟩:=hd.2.1 j oj t (by omega) hoj ha hg hdst hu;refine ⟨b,by rw [zhR (hu i o (by omega) hi)]; exact h1,λp hp hpj c hc=>?_⟩;rcases List.mem_append.1 hp with hp | hp
     . obtain ⟨e,_⟩:=hnew p hp; omega
     . exact h2 p hp hpj c hc
theorem zl1 (ev:Operand->ze) {o:Oper} (h:zcZ o.op=true):foot ev o=⟨[],false,[],false⟩:=by
 unfold foot;cases ho:o.op<;>rw [ho] at h<;>simp only [zcZ] at h<;>(try (cases h; done))<;>(try rfl);rename_i c;cases hc:c.callee with
 | value f=>rw [hc] at h; cases h
 | invoke r m=>rw [hc] at h; cases h
 | builtin bb=>
  rw [hc] at h;cases bb<;>simp at h<;>simp [hc]
theorem ztW (ev:Operand->ze) {o:Oper} (h:zjR o.op=true):(foot ev o).rall=false:=by
 unfold foot;cases ho:o.op<;>rw [ho] at h<;>simp only [zjR] at h<;>(try (cases h; done))<;>(try rfl);rename_i c;cases hc:c.callee with
 | value f=>rw [hc] at h; cases h
 | invoke r m=>rw [hc] at h; cases h
 | builtin bb=>
  rw [hc] at h;cases bb<;>simp at h<;>simp [hc]
theorem znf (ev:Operand->ze) (o:Oper):(foot ev o).wall=false:=by
 unfold foot;split<;>(try rfl);split<;>rfl
def zr (C:Ctx) (T:Tab) (d:Option (List Nat)) (ops rest:List Oper) (Γ:Env) (L:Own) (Q:zf->za->Prop):Prop:=
 match d with
 | none=>∀ fr h,St C Γ L fr h->wX T ops rest fr h Q
 | some ol=>∀ z fr h i done,StZ C Γ L z fr h->ops.drop i=rest->znd ops ol ops.length=true->zlj ops ol z i fr h done->Draw T ops rest i done fr h Q
def zdX (C:Ctx) (T:Tab) (c:Code) (Γ:Env) (L:Own) (P:zab->zf->za->Prop):Prop:=∀ fr h,St C Γ L fr h->Run T c fr h P
section
variable {C:Ctx} {T:Tab} {d:Option (List Nat)} {ops rest:List Oper} {Γ:Env} {L:Own} {Q:zf->za->Prop} {P:zab->zf->za->Prop} {o:Oper}
inductive Want (ops:List Oper) (Γ:Env) (w:Bool):Option (Nat×Bool)->Prop where
 | n (h:w=true):Want ops Γ w none
 | g {j t:Nat} {want b:Bool} (h1:(ops[j]?).bind (λ(o:Oper)=>o.dst)=some t) (h2:look Γ t=some (.val zau b)) (h3:(b==want)=w):Want ops Γ w (some (j,want))
 | u {j t:Nat} {want:Bool} (hw:w=false) (h1:(ops[j]?).bind (λ(o:Oper)=>o.dst)=some t) (h2:look Γ t=some (.raw unit)):Want ops Γ w (some (j,want))
theorem zos {z:Store} {v:ze} {b:Bool} (t:TV zau z v b):v=.bool b:=by
 have h1:=t.agg;have h2:=t.rel;cases v<;>simp_all [ze.isAgg,ze.cells,zau]
theorem zyt {z:Store} {v:ze} {k:IntKind} {n:Int} (t:TV (zj k) z v n):v=.int k n:=by
 have h1:=t.agg;have h2:=t.rel;cases v<;>simp_all [ze.isAgg,ze.cells,zj]
theorem zbQ {z:Store} {k:IntKind} {n:Int} (h1:k.min<=n) (h2:n<=k.max):TV (zj k) z (.int k n) n:=⟨⟨rfl,h1,h2⟩,rfl⟩
theorem zdJ {z:Store} {v:ze} {k:IntKind} {n:Int} (t:TV (zj k) z v n):k.min<=n/\n<=k.max:=t.rel.2
theorem zdK {z:Store} {b:Bool}:TV zau z (.bool b) b:=⟨rfl,rfl⟩
theorem zgW {A:Type} {R:Rep A} {z:Store} {v:ze} {xs:List A} (t:TV (zb R) z v xs):zhk R z v xs:=by
 obtain ⟨h1,h2⟩:=t;obtain ⟨w,h3,h4⟩:=h1;cases v<;>simp_all [ze.isAgg,ze.cells,zb]
theorem zbP {A:Type} {R:Rep A} {z:Store} {v:ze} {xs:List A} (r:zhk R z v xs):TV (zb R) z v xs:=by
 rcases r.2 with ⟨rfl,_⟩ | ⟨b,off,cap,rfl,_⟩ | ⟨b,off,cap,cells,ro,rfl,_⟩<;>exact ⟨⟨_,rfl,r⟩,rfl⟩
theorem zhS {A:Type} {R:Rep A} {z:Store} {v:ze} {x:A} (t:TV (z5 R) z v x):zqp R z v x:=by
 obtain ⟨h1,h2⟩:=t;obtain ⟨w,h3,h4⟩:=h1;cases v<;>simp_all [ze.isAgg,ze.cells,z5]
theorem zfO {A:Type} {R:Rep A} {z:Store} {v:ze} {x:A} (r:zqp R z v x):TV (z5 R) z v x:=by
 obtain ⟨b,off,cells,ro,rfl,h⟩:=r;exact ⟨⟨_,rfl,b,off,cells,ro,rfl,h⟩,rfl⟩
theorem Want.ok {w:Bool} {g:Option (Nat×Bool)} (q:Want ops Γ w g) {z:Store} {fr:zf} (hf:zhz z Γ fr):awanted ops fr g=some w:=by
 cases q with
 | n h=>rw [h]; rfl
 | g h1 h2 h3=>
  have:=zos (by simpa only [TE.ok] using hf _ _ h2);rw [zrq h1 this,h3]
 | u hw h1 h2=>
  have:=hf _ _ h2;simp only [TE.ok] at this;subst hw;unfold awanted;simp only [h1,this,unit]
theorem ziw (q:∀ fr h,St C Γ L fr h->Q fr h):zr C T d ops [] Γ L Q:=by
 cases d with
 | none=>exact λfr h s=>q fr h s
 | some ol=>exact λz fr h i done s _ _ _=>zpn (q fr h ⟨z,s⟩)
theorem ze8 {Γ':Env} {L':Own} (q:∀ z fr h,StZ C Γ L z fr h->∃ z',z.le z'/\StZ C Γ' L' z' fr h) (r:zr C T d ops rest Γ' L' Q):zr C T d ops rest Γ L Q:=by
 cases d with
 | none=>
  intro fr h ⟨z,s⟩;obtain ⟨z',_,s'⟩:=q z fr h s;exact r fr h ⟨z',s'⟩
 | some ol=>
  intro z fr h i done s hr hok hd;obtain ⟨z',hz,s'⟩:=q z fr h s;refine r z' fr h i done s' hr hok ⟨λp hp=>?_,hd.2⟩;obtain ⟨h1,h2,h3,h4,h5,h6⟩:=hd.1 p hp;refine ⟨h1,h2,h3,h4,h5,λo ho hq=>?_⟩;obtain ⟨k1,k2,k3,k4⟩:=h6 o ho hq;refine ⟨k1,k2,λb hb=>?_,k4⟩;cases e:z b with
  | none=>exact absurd e (k3 b hb)
  | some x=>rw [hz b x e]; exact λq=>by cases q
theorem zyu {t:Nat} (hw:Want ops Γ false o.guard) (hd:o.dst=some t) (r:zr C T d ops rest ((t,.raw unit)::Γ) L Q):zr C T d ops (o::rest) Γ L Q:=by
 cases d with
 | none=>
  intro fr h ⟨z,s⟩;simp only [wX,hw.ok s.fr,hd,zaI];exact r _ _ ⟨z,s.set (by simp only [TE.ok])⟩
 | some ol=>
  intro z fr h i done s hr hok hdn;have hi:ops[i]?=some o:=by have:=congrArg (λl=>l[0]?) hr; simpa using this
  have hr':ops.drop (i+1)=rest:=by have:=congrArg List.tail hr; simpa using this
  refine zm7 (hw.ok s.fr) ?_;have hn:=hdn.next (z':=z) (h':=h) (v:=unit) hi (.refl _) (Nat.le_refl _) [] (λp hp=>by cases hp) (λhal hg t hdst=>by
   have:=hw.ok s.fr;rw [hg] at this; cases this) (λ_ _ x hx=>(nomatch hx)) (λp hp=>by cases hp) (λp hp=>by cases hp) (λp hp=>by cases hp)
  rw [hd,zaI] at hn ⊢;exact r z _ h (i+1) done (s.set (by simp only [TE.ok])) hr' hok hn
def Listed (d:Option (List Nat)) (ops rest:List Oper):Prop:=∀ ol,d=some ol->ol.contains (ops.length-(rest.length+1))=true
def zyv (C:Ctx) (d:Option (List Nat)) (Γ:Env) (L:Own) (o:Oper):Prop:=zhl o.op=true->∀ ol,d=some ol->∀ r∈zcf ol,∀ z fr h,StZ C Γ L z fr h->∀ x∈zK (fr.ev r),x∉(foot fr.op o).wr
inductive Rd (C:Ctx) (d:Option (List Nat)) (ops rest:List Oper) (Γ:Env) (L:Own) (o:Oper):Prop where
 | f (h:∀ z fr h,StZ C Γ L z fr h->(foot fr.op o).wr=[]/\(foot fr.op o).rall=false/\(∀ b,b∈(foot fr.op o).rd->z b≠none)/\(zis o.op=true->(foot fr.op o).rd=[]))
 | l (h:Listed d ops rest) (hn:zcZ o.op=false) (ha:zhl o.op=false)
 | w (hn:zcZ o.op=false) (hl:∀ t a,o.op≠.load t a) (hle:zor o.op=false) (ha:zyv C d Γ L o)
theorem Rd.ok {ol:List Nat} {z:Store} {fr:zf} {h:za} {i:Nat} (q:Rd C (some ol) ops rest Γ L o) (s:StZ C Γ L z fr h) (hr:ops.drop i=o::rest) (hq:zeh ol i o.op=true):(foot fr.op o).wr=[]/\(foot fr.op o).rall=false/\(∀ b,b∈(foot fr.op o).rd->z b≠none)/\(zis o.op=true->(foot fr.op o).rd=[]):=by
 have hi:i=ops.length-(rest.length+1):=by
  have:=congrArg List.length hr;simp at this;omega
 cases q with
 | f h=>exact h z fr _ s
 | l h hn ha=>
  have:=h ol rfl;rw [← hi] at this;unfold zeh at hq;rw [hn,Bool.false_or,this,Bool.not_true,Bool.and_false] at hq;cases hq
 | w hn hl hle ha=>
  unfold zeh at hq;rw [hn,Bool.false_or,hle,Bool.false_or,Bool.and_eq_true] at hq;have:=hq.1;unfold zna at this;split at this
  . rename_i t a e; exact absurd e (hl t a)
  . cases this
theorem Rd.app {ol:List Nat} {z:Store} {fr:zf} {h:za} (q:Rd C (some ol) ops rest Γ L o) (s:StZ C Γ L z fr h) (ha:zhl o.op=true):∀ r∈zcf ol,∀ x∈zK (fr.ev r),x∉(foot fr.op o).wr:=by
 cases q with
 | f k=>rw [(k z fr _ s).1]; exact λr _ x _ hx=>(nomatch hx)
 | l _ _ hn=>rw [hn] at ha; cases ha
 | w _ _ _ k=>exact λr hr=>k ha ol rfl r hr z fr h s
theorem zl2 {fr:zf} {h h':za} {v:ze} {s r f:Nat} (ho:o.op=.fieldAddr s (.tmp r) f) (ha:aop T fr.op h o.op=some (.val v h')):∀ x∈zK v,x∈zK (fr.ev r):=by
 rw [ho] at ha;simp only [aop,zS,Option.map] at ha;split at ha
 case h_2=>cases ha
 rename_i w hw;cases ha;unfold ze5 at hw;split at hw
 . split at hw
   . split at hw
     . rename_i e;rw [zpo] at e;split at hw
       . cases hw
       . cases hw;rw [e];exact λx hx=>hx
     . cases hw
   . cases hw
 . cases hw
theorem ztX {fr:zf} {h h':za} {v:ze} {r:Nat} (hl:zjS o.op=some r) (ha:aop T fr.op h o.op=some (.val v h')):∀ x∈zK v,x∈zK (fr.ev r):=by
 unfold zjS at hl;split at hl
 . rename_i e;cases hl;exact zl2 e ha
 . rename_i e;cases hl;rw [e] at ha;simp only [aop,zdf] at ha;split at ha
   case h_4=>cases ha
   all_goals
    rename_i e;rw [zpo] at e;cases ha;rw [e];exact λx hx=>hx
 . rename_i e;cases hl;rw [e] at ha;simp only [aop] at ha;cases ha;exact λx hx=>hx
 . cases hl
theorem zfC (hw:Want ops Γ true o.guard) (hrd:Rd C d ops rest Γ L o)
    (H:∀ z fr h,StZ C Γ L z fr h->∃ v h' z' Γ' L',aop T fr.op h o.op=some (.val v h')/\zi2 z h (foot fr.op o)/\z.le z'/\StZ C Γ' L' z' (putDst fr o.dst v) h'/\zr C T d ops rest Γ' L' Q):zr C T d ops (o::rest) Γ L Q:=by
  cases d with
  | none=>
    intro fr h ⟨z,s⟩;obtain ⟨v,h',z',Γ',L',ha,_,_,s',r⟩:=H z fr h s;simp only [wX,hw.ok s.fr,ha];exact r _ _ ⟨z',s'⟩
  | some ol=>
    intro z fr h i done s hr hok hd;obtain ⟨v,h',z',Γ',L',ha,hft,hz,s',r⟩:=H z fr h s;have hi:ops[i]?=some o:=by have:=congrArg (λl=>l[0]?) hr; simpa using this
    have hlt:i<ops.length:=(List.getElem?_eq_some_iff.1 hi).1;have hr':ops.drop (i+1)=rest:=by have:=congrArg List.tail hr; simpa using this
    have hk:=zgy ha;refine zru (hw.ok s.fr) ha s.chg.ok rfl (zfB hi hd (zgA hok i hlt) (znf _ _) hft (zl1 _) (ztW _) (λq=>(ziZ q).1) (λt et y q=>zry _ q) (λt a q=>zrx _ q) (λq=>hrd.app s q)) ?_;refine r z' _ h' (i+1) _ s' hr' hok (hd.next (v:=v) hi hz hk.1 [(i,foot fr.op o)] ?_ ?_ (λr q=>ztX q ha) ?_ ?_ ?_)
    · intro p hp;rw [List.mem_singleton] at hp;subst hp;exact ⟨rfl,znf _ _,λq=>(ziZ q).1,λq=>zrz _ q,λb hb=>Nat.lt_of_lt_of_le (hb.elim (hft.rd b) (λq=>(hft.wr b q).1)) hk.1,λq=>hrd.ok s hr q⟩
    · intro hal hg t hdst;obtain ⟨e1,e2⟩:=zrA hal ha;refine ⟨h.next, ?_,Nat.le_refl _⟩;rw [hdst,zaI,zf.ev_set,if_pos rfl,e1]
    · intro p hp t a q x hx;rw [List.mem_singleton] at hp;subst hp;rw [zrx _ q] at hx;exact hx
    · intro p hp q;rw [List.mem_singleton] at hp;subst hp;exact hrd.app s q
    · intro p hp t a y q;rw [List.mem_singleton] at hp;subst hp;rw [zry _ q];exact ⟨rfl,λx hx=>hx⟩
theorem nf (h:zcZ o.op=true):Rd C d ops rest Γ L o:=.f λz fr hh _=>by
 rw [zl1 _ h];exact ⟨rfl,rfl,λb hb=>(nomatch hb),λ_=>rfl⟩
theorem nfo {z:Store} {fr:zf} {hh:za} (h:zcZ o.op=true):zi2 z hh (foot fr.op o):=by
 rw [zl1 _ h];exact ⟨λb hb=>(nomatch hb),λb hb=>(nomatch hb)⟩
theorem zeS {t:Nat} {e:TE} (hrd:Rd C d ops rest Γ L o) (hft:∀ z fr h,StZ C Γ L z fr h->zi2 z h (foot fr.op o)) (hw:Want ops Γ true o.guard) (hd:o.dst=some t) (H:∀ z fr h,StZ C Γ L z fr h->∃ v,aop T fr.op h o.op=some (.val v h)/\e.ok z v) (r:zr C T d ops rest ((t,e)::Γ) L Q):zr C T d ops (o::rest) Γ L Q:=
 zfC hw hrd λz fr h s=>by
  obtain ⟨v,h1,h2⟩:=H z fr h s;exact ⟨v,h,z,_,_,h1,hft z fr h s,.refl _,by rw [hd,zaI]; exact s.set h2,r⟩
theorem zaj {t:Nat} {e:TE} (hn:zcZ o.op=true) (hw:Want ops Γ true o.guard) (hd:o.dst=some t) (H:∀ z fr h,StZ C Γ L z fr h->∃ v,aop T fr.op h o.op=some (.val v h)/\e.ok z v) (r:zr C T d ops rest ((t,e)::Γ) L Q):zr C T d ops (o::rest) Γ L Q:=
 zeS (nf hn) (λ_ _ _ _=>nfo hn) hw hd H r
inductive Opd (Γ:Env):Operand->TE->Prop where
 | t {t:Nat} {e:TE} (h:look Γ t=some e):Opd Γ (.tmp t) e
 | i {k:IntKind} {n:Int} (h1:k.min<=n) (h2:n<=k.max):Opd Γ (.const (.int k n)) (.val (zj k) n)
 | b {b:Bool}:Opd Γ (.const (.bool b)) (.val zau b)
 | nil {A:Type} {R:Rep A}:Opd Γ (.const (.slice none 0 0)) (.val (zb R) [])
 | nilr:Opd Γ (.const (.slice none 0 0)) (.raw .nilslice)
 | f {g:FuncId}:Opd Γ (.func g) (.raw (.func (.func g) [] []))
 | fv {A:Type} {R:Rep A} {x:A} {g:FuncId} (h:∀ z,TV R z (.func (.func g) [] []) x):Opd Γ (.func g) (.val R x)
theorem zhm {A:Type} {R:Rep A} {z:Store}:zhk R z .nilslice []:=⟨by simp [maxLen],.inl ⟨rfl,rfl⟩⟩
theorem Opd.ok {x:Operand} {e:TE} (q:Opd Γ x e) {z:Store} {fr:zf} (hf:zhz z Γ fr):e.ok z (fr.op x):=by
 cases q with
 | t h=>exact hf _ _ h
 | i h1 h2=>simp only [TE.ok]; exact zbQ h1 h2
 | b=>simp only [TE.ok]; exact zdK
 | nil=>simp only [TE.ok]; exact zbP zhm
 | nilr=>simp only [TE.ok]; rfl
 | f=>simp only [TE.ok]; rfl
 | fv h=>simp only [TE.ok]; exact h z
theorem Opd.int {x:Operand} {k:IntKind} {n:Int} (q:Opd Γ x (.val (zj k) n)) {z:Store} {fr:zf} (hf:zhz z Γ fr):fr.op x=.int k n:=zyt (by simpa only [TE.ok] using q.ok hf)
theorem Opd.bool {x:Operand} {b:Bool} (q:Opd Γ x (.val zau b)) {z:Store} {fr:zf} (hf:zhz z Γ fr):fr.op x=.bool b:=zos (by simpa only [TE.ok] using q.ok hf)
theorem Opd.val {A:Type} {R:Rep A} {x:Operand} {a:A} (q:Opd Γ x (.val R a)) {z:Store} {fr:zf} (hf:zhz z Γ fr):TV R z (fr.op x) a:=by simpa only [TE.ok] using q.ok hf
theorem Opd.raw {x:Operand} {v:ze} (q:Opd Γ x (.raw v)) {z:Store} {fr:zf} (hf:zhz z Γ fr):fr.op x=v:=by simpa only [TE.ok] using q.ok hf
variable {t:Nat}
theorem zng {x:Operand} {e:TE} (hw:Want ops Γ true o.guard) (ho:o.op=.move x) (hd:o.dst=some t) (hx:Opd Γ x e) (r:zr C T d ops rest ((t,e)::Γ) L Q):zr C T d ops (o::rest) Γ L Q:=
 zaj (by rw [ho]; rfl) hw hd (λz fr h s=>⟨fr.op x,by rw [ho]; rfl,hx.ok s.fr⟩) r
theorem zdY {x:Operand} {e:TE} (hw:Want ops Γ true o.guard) (ho:o.op=.assign x) (hd:o.dst=some t) (hx:Opd Γ x e) (r:zr C T d ops rest ((t,e)::Γ) L Q):zr C T d ops (o::rest) Γ L Q:=
 zaj (by rw [ho]; rfl) hw hd (λz fr h s=>⟨fr.op x,by rw [ho]; rfl,hx.ok s.fr⟩) r
inductive Ar (k:IntKind) (a b:Int):BinOp->Int->Prop where
 | add:Ar k a b .add (k.wrap (a+b))
 | sub:Ar k a b .sub (k.wrap (a-b))
 | mul:Ar k a b .mul (k.wrap (a*b))
 | quo (h:b≠0):Ar k a b .quo (k.wrap (a.tdiv b))
 | and:Ar k a b .and (k.wrap ((BitVec.ofInt k.bits a &&& BitVec.ofInt k.bits b).toNat))
 | or:Ar k a b .or (k.wrap ((BitVec.ofInt k.bits a ||| BitVec.ofInt k.bits b).toNat))
 | xor:Ar k a b .xor (k.wrap ((BitVec.ofInt k.bits a ^^^ BitVec.ofInt k.bits b).toNat))
 | andNot:Ar k a b .andNot (k.wrap ((BitVec.ofInt k.bits a &&& ~~~ (BitVec.ofInt k.bits b)).toNat))
inductive Cmp (a b:Int):BinOp->Bool->Prop where
 | eql:Cmp a b .eql (a==b)
 | neq:Cmp a b .neq (a !=b)
 | lss:Cmp a b .lss (decide (a<b))
 | leq:Cmp a b .leq (decide (a<=b))
 | gtr:Cmp a b .gtr (decide (a>b))
 | geq:Cmp a b .geq (decide (a>=b))
theorem zdL (k:IntKind) (n:Int):k.min<=k.wrap n/\k.wrap n<=k.max:=by
 cases k<;>simp only [IntKind.wrap,IntKind.min,IntKind.max,IntKind.bits,IntKind.signed]<;>simp<;>(try split)<;>omega
theorem zA0 {op:BinOp} {u u':TypeId} {k:IntKind} {x y:Operand} {a b n:Int} (hw:Want ops Γ true o.guard) (ho:o.op=.binOp op u x y u') (hd:o.dst=some t) (hx:Opd Γ x (.val (zj k) a)) (hy:Opd Γ y (.val (zj k) b)) (hr:Ar k a b op n)
 (r:zr C T d ops rest ((t,.val (zj k) n)::Γ) L Q):zr C T d ops (o::rest) Γ L Q:=by
 refine zaj (by rw [ho]; rfl) hw hd (λz fr h s=>⟨.int k n, ?_, ?_⟩) r
 . rw [ho];simp only [aop,abin,hx.int s.fr,hy.int s.fr];cases hr<;>simp_all [aint,zS]
 . simp only [TE.ok];have:∃ m,n=k.wrap m:=by cases hr<;>exact ⟨_,rfl⟩
   obtain ⟨m,rfl⟩:=this;exact zbQ (zdL k m).1 (zdL k m).2
end
end Go.Ai.Sx