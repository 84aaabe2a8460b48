/- Symbolic runs of the abstract interpreter: numbers,rows,pointers,structs. -/
import Derived.Test.YtfamdelkpempgaaGreatW3
set_option linter.unusedSimpArgs false
set_option linter.unusedVariables false
set_option linter.unusedSectionVars false
open Option renaming some→Ob,none→Oe
open Bool renaming false→Oc,true→Od
open Option renaming bind->Zb,bind_some->Zs
namespace Go.Ai.Sx
structure FOk {A B:Type} (R:Rep A) (off:Nat) (S:Rep B) (g:A->B) (w:A->B->A):Prop where
 fit:off+S.sz<=R.sz
 get:∀ z cs x,R.rel z cs x->S.rel z ((cs.drop off).take S.sz) (g x)
 set:∀ z cs x ds y,R.rel z cs x->S.rel z ds y->R.rel z (cs.take off++ds++cs.drop (off+S.sz)) (w x y)
theorem FOk.self {A:Type} {R:Rep A}:FOk R 0 R (λx=>x) (λ_ y=>y):=
 ⟨by omega,λz cs x h=>by rw [List.drop_zero,← R.len _ _ _ h,List.take_length]; exact h,λz cs x ds y h h'=>by rw [List.take_zero,Nat.zero_add,← R.len _ _ _ h,List.drop_length]; simpa using h'⟩
theorem FOk.here {A B:Type} {R:Rep A} {S:Rep B}:FOk (zI R S) 0 R (λx=>x.1) (λx y=>(y,x.2)):=
 ⟨by simp [zI],λz cs x h=>by
  obtain ⟨c1,c2,rfl,h1,h2⟩:=h;rw [List.drop_zero,← R.len _ _ _ h1,List.take_left']
  ·exact h1
  ·rfl,λz cs x ds y h h'=>by
  obtain ⟨c1,c2,rfl,h1,h2⟩:=h;refine ⟨ds,c2, ?_,h',h2⟩;rw [List.take_zero,Nat.zero_add,← R.len _ _ _ h1,List.drop_left']
  ·simp
  ·rfl⟩
theorem FOk.there {A B D:Type} {R:Rep A} {S:Rep B} {U:Rep D} {off:Nat} {g:B->D} {w:B->D->B} (f:FOk S off U g w):FOk (zI R S) (R.sz+off) U (λx=>g x.2) (λx y=>(x.1,w x.2 y)):=
 ⟨by have:=f.fit; simp only [zI]; omega,λz cs x h=>by
  obtain ⟨c1,c2,rfl,h1,h2⟩:=h;rw [List.drop_append,List.drop_eq_nil_of_le (by rw [R.len _ _ _ h1]; omega),R.len _ _ _ h1,Nat.add_sub_cancel_left,List.nil_append];exact f.get _ _ _ h2,λz cs x ds y h h'=>by
  obtain ⟨c1,c2,rfl,h1,h2⟩:=h;refine ⟨c1,_, ?_,h1,f.set _ _ _ _ _ h2 h'⟩;rw [List.take_append,List.take_of_length_le (by rw [R.len _ _ _ h1]; omega),List.drop_append,List.drop_eq_nil_of_le (by rw [R.len _ _ _ h1]; omega),R.len _ _ _ h1,Nat.add_sub_cancel_left,Nat.add_assoc,Nat.add_sub_cancel_left];simp⟩
theorem FOk.off {A B:Type} {R:Rep A} {o o':Nat} {S:Rep B} {g:A->B} {w:A->B->A} (f:FOk R o S g w) (e:o=o'):FOk R o' S g w:=e▸f
structure Und (T:Tab) (t:TypeId) {A:Type} (R:Rep A):Prop where
 sz:szT T t=Ob R.sz
 agg:zea T t=Ob R.agg
structure Sl (T:Tab) (st:TypeId) (et:TypeId) {A:Type} (R:Rep A):Prop where
 und:T.und st=Ob (.slice et)
 sz:szT T et=Ob R.sz
 agg:zea T et=Ob R.agg
 pos:0<R.sz
structure Fld (T:Tab) (s:TypeId) (i:Nat) (ft:TypeId) (off n:Nat):Prop where
 fld:∃ fs f,T.und s=Ob (.struct fs)/\fs[i]?=Ob f/\f.offset=off/\f.type=ft
 sz:szT T ft=Ob n
section
variable {C:Ctx} {T:Tab} {d:Option (List Nat)} {ops rest:List Oper} {M:Env} {L:Own} {Q:zg->za->Prop} {P:zaC->zg->za->Prop} {o:Oper} {t:Nat}
theorem zgd {A:Type} {R:Rep A} {et:TypeId} {cells:List zb} {off:Nat} {z:Store} {x:A} (hs:szT T et=Ob R.sz) (ha:zea T et=Ob R.agg) (hl:off+R.sz<=cells.length) (hr:R.rel z ((cells.drop off).take R.sz) x) :
    ∃ v,apart T et cells off=Ob v/\TV R z v x:=by
  unfold apart;rw [ha];cases hb:R.agg with
  | true=>
    simp only [hs];rw [if_pos hl];exact ⟨_,rfl,hr,hb.symm⟩
  | false=>
    have h1:=R.one hb;have hlt:off<cells.length:=J
    simp only [List.getElem?_eq_getElem hlt];refine ⟨_,rfl, ?_, ?_⟩;all_goals rw [h1] at hr
    all_goals have e:(cells.drop off).take 1=[cells[off]]:=by
                rw [List.drop_eq_getElem_cons hlt]; rfl
    all_goals rw [e] at hr
    all_goals have ho:=R.ones _ _ _ hr
    all_goals simp only [List.all_cons,List.all_nil,Bool.and_true] at ho
    · have:cells[off].cells=[cells[off]]:=by
        cases hc:cells[off]<;>rw [hc] at ho<;>simp_all [zb.cells,zb.one]
      rw [this]; exact hr
    · rw [hb];cases hc:cells[off]<;>rw [hc] at ho<;>simp_all [zb.isAgg,zb.one]
theorem zAT {op:BinOp} {u u':TypeId} {k:IntKind} {x y:Operand} {a b:Int} {q:Bool} (hw:Want ops M Od o.guard) (ho:o.op=.binOp op u x y u') (hd:o.dst=Ob t) (hx:Opd M x (.val (zi k) a)) (hy:Opd M y (.val (zi k) b)) (hr:Cmp a b op q)
 (r:zr C T d ops rest ((t,.val zaS q)::M) L Q):zr C T d ops (o::rest) M L Q:=by
 refine zal (by rw [ho]; rfl) hw hd (λz fr h s=>⟨.bool q, ?_,by simp only [TE.ok]; exact zfG⟩) r;rw [ho];simp only [aop,abin,hx.int s.fr,hy.int s.fr];cases hr<;>simp [aint,zae]
theorem zsh {a:Int} (b:Int) (h:0<=a):a.tmod b<=a:=by
 obtain ⟨n,rfl⟩:=Int.eq_ofNat_of_zero_le h;rcases Int.lt_or_le b 0 with hb | hb
 . obtain ⟨m,hm⟩:=Int.eq_ofNat_of_zero_le (show 0<=-b by omega);have:b=-(m:Int):=J
   subst this;rw [Int.tmod_neg];exact Int.ofNat_le.2 (Nat.mod_le n m)
 . obtain ⟨m,rfl⟩:=Int.eq_ofNat_of_zero_le hb;exact Int.ofNat_le.2 (Nat.mod_le n m)
theorem zAU {u u':TypeId} {k:IntKind} {x y:Operand} {a b:Int} (hw:Want ops M Od o.guard) (ho:o.op=.binOp .rem u x y u') (hd:o.dst=Ob t) (hx:Opd M x (.val (zi k) a)) (hy:Opd M y (.val (zi k) b)) (hb:b≠0)
 (r:zr C T d ops rest ((t,.val (zi k) (a.tmod b))::M) L Q):zr C T d ops (o::rest) M L Q:=by
 refine zal (by rw [ho]; rfl) hw hd (λz fr h s=>⟨.int k (a.tmod b), ?_, ?_⟩) r
 . rw [ho];simp only [aop,abin,hx.int s.fr,hy.int s.fr,aint];simp [hb,zae]
 . simp only [TE.ok];have h1:=zec (hx.val s.fr);have h2:a.tmod b<=a\/a.tmod b<=0:=by
    rcases Int.lt_or_le a 0 with h | h
    . right;have:=Int.neg_tmod (-a) b;have:=Int.tmod_nonneg b (show 0<=-a by omega);have e:a.tmod b=-((-a).tmod b):=by rw [Int.neg_tmod]; omega
      omega
    . left; exact zsh b h
   have h3:a<=a.tmod b\/0<=a.tmod b:=by
    rcases Int.lt_or_le a 0 with h | h
    . left;have:=zsh b (show 0<=-a by omega);have e:a.tmod b=-((-a).tmod b):=by rw [Int.neg_tmod]; omega
      omega
    . right; exact Int.tmod_nonneg b h
   have hm:k.min<=0/\0<=k.max:=by cases k<;>simp [IntKind.min,IntKind.max,IntKind.bits,IntKind.signed]
   exact zcc J J
theorem zCb {u u':TypeId} {k k':IntKind} {x y:Operand} {a b:Int} (hw:Want ops M Od o.guard) (ho:o.op=.binOp .shl u x y u') (hd:o.dst=Ob t) (hx:Opd M x (.val (zi k) a)) (hy:Opd M y (.val (zi k') b)) (hb:0<=b)
 (r:zr C T d ops rest ((t,.val (zi k) (k.wrap (a*2 ^ (min b.toNat k.bits))))::M) L Q):zr C T d ops (o::rest) M L Q:=by
 refine zal (by rw [ho]; rfl) hw hd (λz fr h s=>⟨.int k (k.wrap (a*2 ^ (min b.toNat k.bits))), ?_, ?_⟩) r
 . rw [ho];simp only [aop,abin,hx.int s.fr,hy.int s.fr,aint];rw [if_neg J]; rfl
 . simp only [TE.ok]; exact zcc (zed _ _).1 (zed _ _).2
theorem zAV {u u':TypeId} {k k':IntKind} {x y:Operand} {a b:Int} (hw:Want ops M Od o.guard) (ho:o.op=.binOp .shr u x y u') (hd:o.dst=Ob t) (hx:Opd M x (.val (zi k) a)) (hy:Opd M y (.val (zi k') b)) (hb:0<=b)
 (r:zr C T d ops rest ((t,.val (zi k) (a.fdiv (2 ^ (min b.toNat k.bits))))::M) L Q):zr C T d ops (o::rest) M L Q:=by
 refine zal (by rw [ho]; rfl) hw hd (λz fr h s=>⟨.int k (a.fdiv (2 ^ (min b.toNat k.bits))), ?_, ?_⟩) r
 . rw [ho];simp only [aop,abin,hx.int s.fr,hy.int s.fr,aint];rw [if_neg J]; rfl
 . simp only [TE.ok];have h1:=zec (hx.val s.fr);have hm:k.min<=0/\0<=k.max/\k.min<=-1\/k.min=0:=by cases k<;>simp [IntKind.min,IntKind.max,IntKind.bits,IntKind.signed]
   have hp:(0:Int)<2 ^ (min b.toNat k.bits):=Int.pow_pos Oa;rw [Int.fdiv_eq_ediv_of_nonneg _ (Int.le_of_lt hp)];have e:=Int.emod_add_mul_ediv a (2 ^ (min b.toNat k.bits));have e1:=Int.emod_nonneg a (Int.ne_of_gt hp);generalize (2:Int) ^ (min b.toNat k.bits)=p at *
   refine zcc ?_ ?_
   . rcases Int.lt_or_le a 0 with h | h
     . have:a<=a/p:=by
        rw [Int.le_ediv_iff_mul_le hp];have:=Int.mul_le_mul_of_nonpos_left (show a<=0 by omega) (show (1:Int)<=p by omega);omega
       omega
     . have:=Int.ediv_nonneg h (Int.le_of_lt hp); omega
   . rcases Int.lt_or_le a 0 with h | h
     . have:=Int.ediv_neg_of_neg_of_pos h hp;have hm2:0<=k.max:=by cases k<;>simp [IntKind.max,IntKind.bits,IntKind.signed]
       omega
     . have:=Int.ediv_le_self p h; omega
theorem zAW {u:TypeId} {x:Operand} {a:Bool} (hw:Want ops M Od o.guard) (ho:o.op=.unOp .not u x) (hd:o.dst=Ob t) (hx:Opd M x (.val zaS a))
 (r:zr C T d ops rest ((t,.val zaS (!a))::M) L Q):zr C T d ops (o::rest) M L Q:=by
 refine zal (by rw [ho]; rfl) hw hd (λz fr h s=>⟨.bool (!a), ?_,by simp only [TE.ok]; exact zfG⟩) r;rw [ho];simp [aop,aun,hx.bool s.fr,zae]
theorem zAX {u:TypeId} {k:IntKind} {x:Operand} {a:Int} (hw:Want ops M Od o.guard) (ho:o.op=.unOp .neg u x) (hd:o.dst=Ob t) (hx:Opd M x (.val (zi k) a))
 (r:zr C T d ops rest ((t,.val (zi k) (k.wrap (0-a)))::M) L Q):zr C T d ops (o::rest) M L Q:=by
 refine zal (by rw [ho]; rfl) hw hd (λz fr h s=>⟨.int k (k.wrap (0-a)), ?_,by simp only [TE.ok]; exact zcc (zed _ _).1 (zed _ _).2⟩) r;rw [ho];simp [aop,aun,hx.int s.fr,zae,aint]
theorem zzw {u u':TypeId} {k k':IntKind} {x:Operand} {a:Int} (h1:(T.und u).isSome=Od) (h2:T.und u'=Ob (.int k')) (hw:Want ops M Od o.guard) (ho:o.op=.convert u u' x) (hd:o.dst=Ob t) (hx:Opd M x (.val (zi k) a))
 (r:zr C T d ops rest ((t,.val (zi k') (k'.wrap a))::M) L Q):zr C T d ops (o::rest) M L Q:=by
 refine zal (by rw [ho]; rfl) hw hd (λz fr h s=>⟨.int k' (k'.wrap a), ?_,by simp only [TE.ok]; exact zcc (zed _ _).1 (zed _ _).2⟩) r;rw [ho];cases e:T.und u with
 | none=>rw [e] at h1; cases h1
 | some q=>simp [aop,aconvert,hx.int s.fr,h2,e,zae]
theorem zw4 {c x y:Operand} {e:TE} (hw:Want ops M Od o.guard) (ho:o.op=.pick c x y) (hd:o.dst=Ob t) (hc:Opd M c (.val zaS Od)) (hx:Opd M x e)
 (r:zr C T d ops rest ((t,e)::M) L Q):zr C T d ops (o::rest) M L Q:=by
 refine zal (by rw [ho]; rfl) hw hd (λz fr h s=>⟨fr.op x, ?_,hx.ok s.fr⟩) r;rw [ho];simp [aop,zie,hc.bool s.fr]
theorem zw5 {c x y:Operand} {e:TE} (hw:Want ops M Od o.guard) (ho:o.op=.pick c x y) (hd:o.dst=Ob t) (hc:Opd M c (.val zaS Oc)) (hy:Opd M y e)
 (r:zr C T d ops rest ((t,e)::M) L Q):zr C T d ops (o::rest) M L Q:=by
 refine zal (by rw [ho]; rfl) hw hd (λz fr h s=>⟨fr.op y, ?_,hy.ok s.fr⟩) r;rw [ho];simp [aop,zie,hc.bool s.fr]
def zp {A:Type} (xs:List A):Int:=xs.length
theorem zis {A:Type} {xs:List A} (h:xs.length<=maxLen):IntKind.i64.min<=zp xs/\zp xs<=IntKind.i64.max:=by
 unfold zp;simp [IntKind.min,IntKind.max,IntKind.bits,IntKind.signed,maxLen] at *
 omega
theorem zAF {A:Type} {R:Rep A} {z:Store} {h:za} {v:zb} {xs:List A} (hs:z.Sub h) (r:zgO R z v xs):∀ b,b∈zN v->b<h.next:=by
 intro b hb;rcases r.2 with ⟨q,_⟩ | ⟨b',off,cap,q,_,hg⟩ | ⟨b',off,cap,cells,ro,q,hg,_⟩<;>subst q<;>simp [zN] at hb
 . subst hb; exact (hs _ _ hg).2
 . subst hb; exact (hs _ _ hg).2
theorem zsi {A:Type} {R:Rep A} {z:Store} {v:zb} {xs:List A} (r:zgO R z v xs):zoF v=[]:=by
 rcases r.2 with ⟨q,_⟩ | ⟨b',off,cap,q,_,hg⟩ | ⟨b',off,cap,cells,ro,q,hg,_⟩<;>subst q<;>rfl
theorem zit {z:Store} {fr:zg} {h:za} (s:StZ C M L z fr h) {k:Nat} {v:zb} {ob:Obj} (hk:L[k]?=Ob (v,ob)) (hnc:zsc ob=Od):∀ b,b∈zN v->b<h.next:=by
 intro b hb;have:=(s.own.out _ (List.mem_of_getElem? hk) b (by rw [zlG hnc]; cases v<;>simp_all [zN,zhy])).2.1;exact this
theorem zAG {A:Type} {R:Rep A} {z:Store} {h:za} {v:zb} {x:A} (hs:z.Sub h) (r:zq1 R z v x):∀ b,b∈zN v->b<h.next:=by
 intro b hb;obtain ⟨b',off,cells,ro,q,hg,_⟩:=r;subst q;simp [zN] at hb;subst hb; exact (hs _ _ hg).2
theorem zsj {A:Type} {R:Rep A} {z:Store} {v:zb} {x:A} (r:zq1 R z v x):∀ b,b∈zN v->z b≠Oe:=by
 intro b hb;obtain ⟨b',off,cells,ro,q,hg,_⟩:=r;subst q;simp [zN] at hb;subst hb; rw [hg]; exact λq=>by cases q
theorem zet {z:Store} {fr:zg} {h:za} (s:StZ C M L z fr h) {k:Nat} {v:zb} {ob:Obj} (hk:L[k]?=Ob (v,ob)) (hnc:zsc ob=Od):∀ b,b∈zN v->b<h.next/\z b=Oe:=by
 intro b hb;have:=s.own.out _ (List.mem_of_getElem? hk) b (by rw [zlG hnc]; cases v<;>simp_all [zN,zhy]);exact ⟨this.2.1,this.1⟩
theorem zAY {A:Type} {R:Rep A} {c:Call} {x:Operand} {xs:List A} {st et:TypeId} (hsl:Sl T st et R) (hw:Want ops M Od o.guard) (ho:o.op=.call c) (hd:o.dst=Ob t) (hc:c.callee=.builtin .len) (ha:c.args.toList=[x]) (ht:c.argTypes[0]?=Ob st)
 (hx:Opd M x (.val (ze R) xs)) (r:zr C T d ops rest ((t,.val (zi .i64) (zp xs))::M) L Q):zr C T d ops (o::rest) M L Q:=by
 have hf:∀ z fr h,StZ C M L z fr h->foot fr.op o=⟨[],Oc,[],Oc⟩:=λz fr h s=>by
  unfold foot; rw [ho]; simp only [hc];simp [ha,zsi (zgR (hx.val s.fr))]
 refine zgh (.f λz fr h s=>by rw [hf z fr h s]; exact ⟨rfl,rfl,λb hb=>(nomatch hb),λ_=>rfl⟩) (λz fr h s=>by rw [hf z fr h s]; exact ⟨λb hb=>(nomatch hb),λb hb=>(nomatch hb)⟩) hw hd (λz fr h s=>?_) r;have hr:=zgR (hx.val s.fr);refine ⟨.int .i64 (zp xs), ?_,by simp only [TE.ok]; exact zcc (zis hr.1).1 (zis hr.1).2⟩;rw [ho];simp only [aop,zc4,hc,abuiltin,ha,List.map,ht,alen,hsl.und];rcases hr.2 with ⟨q,rfl⟩ | ⟨b,off,cap,q,rfl,_⟩ | ⟨b,off,cap,cells,ro,q,_⟩<;>rw [q]<;>simp [zae,zp]
theorem zzx {A:Type} {R:Rep A} {c:Call} {x:Operand} {xs:List A} {st et:TypeId} {v:zb} (k:Nat) (hsl:Sl T st et R) (hw:Want ops M Od o.guard) (ho:o.op=.call c) (hd:o.dst=Ob t) (hc:c.callee=.builtin .len) (ha:c.args.toList=[x]) (ht:c.argTypes[0]?=Ob st)
 (hx:Opd M x (.raw v)) (hk:L[k]?=Ob (v,.row R xs)) (r:zr C T d ops rest ((t,.val (zi .i64) (zp xs))::M) L Q):zr C T d ops (o::rest) M L Q:=by
 have hf:∀ z fr h,StZ C M L z fr h->foot fr.op o=⟨[],Oc,[],Oc⟩:=λz fr h s=>by
  have hr:=s.own.ok _ (List.mem_of_getElem? hk);simp only [Obj.ok] at hr;have e:zoF v=[]:=by rcases hr.2 with ⟨q,_⟩ | ⟨_,_,_,_,q,_⟩<;>rw [q]<;>rfl
  unfold foot; rw [ho]; simp only [hc];simp [ha,hx.raw s.fr,e]
 refine zgh (.f λz fr h s=>by rw [hf z fr h s]; exact ⟨rfl,rfl,λb hb=>(nomatch hb),λ_=>rfl⟩) (λz fr h s=>by rw [hf z fr h s]; exact ⟨λb hb=>(nomatch hb),λb hb=>(nomatch hb)⟩) hw hd (λz fr h s=>?_) r;have hr:=s.own.ok _ (List.mem_of_getElem? hk);simp only [Obj.ok] at hr;refine ⟨.int .i64 (zp xs), ?_,by simp only [TE.ok]; exact zcc (zis hr.1).1 (zis hr.1).2⟩;rw [ho];simp only [aop,zc4,hc,abuiltin,ha,List.map,ht,alen,hsl.und,hx.raw s.fr];rcases hr.2 with ⟨q,rfl⟩ | ⟨b,off,cap,cells,q,_⟩<;>rw [q]<;>simp [zae,zp]
theorem zAZ {c:Call} {x y:Operand} {k:IntKind} {a b:Int} (hw:Want ops M Od o.guard) (ho:o.op=.call c) (hd:o.dst=Ob t) (hc:c.callee=.builtin .max) (ha:c.args.toList=[x,y])
 (hx:Opd M x (.val (zi k) a)) (hy:Opd M y (.val (zi k) b)) (r:zr C T d ops rest ((t,.val (zi k) (max a b))::M) L Q):zr C T d ops (o::rest) M L Q:=by
 refine zal (by rw [ho]; simp only [zdk,hc]) hw hd (λz fr h s=>⟨.int k (max a b), ?_, ?_⟩) r
 . rw [ho];simp only [aop,zc4,hc,abuiltin,ha,List.map,hx.int s.fr,hy.int s.fr,amax];simp only [List.foldlM,zae,Option.bind_eq_bind,Zb,Option.map,pure];congr 3;simp only [Int.max_def]; split<;>split<;>omega
 . simp only [TE.ok];have h1:=zec (hx.val s.fr);have h2:=zec (hy.val s.fr);exact zcc J J
theorem zA0 {c:Call} {x y:Operand} {k:IntKind} {a b:Int} (hw:Want ops M Od o.guard) (ho:o.op=.call c) (hd:o.dst=Ob t) (hc:c.callee=.builtin .min) (ha:c.args.toList=[x,y])
 (hx:Opd M x (.val (zi k) a)) (hy:Opd M y (.val (zi k) b)) (r:zr C T d ops rest ((t,.val (zi k) (min a b))::M) L Q):zr C T d ops (o::rest) M L Q:=by
 refine zal (by rw [ho]; simp only [zdk,hc]) hw hd (λz fr h s=>⟨.int k (min a b), ?_, ?_⟩) r
 . rw [ho];simp only [aop,zc4,hc,abuiltin,ha,List.map,hx.int s.fr,hy.int s.fr,amin];simp only [List.foldlM,zae,Option.bind_eq_bind,Zb,Option.map,pure];congr 3;simp only [Int.min_def]; split<;>split<;>omega
 . simp only [TE.ok];have h1:=zec (hx.val s.fr);have h2:=zec (hy.val s.fr);exact zcc J J
def idx {A:Type} (xs:List A) (i:Int):Option A:=if 0<=i then xs[i.toNat]? else Oe
theorem zfq {A:Type} {xs:List A} {i:Int} {x:A} (h:idx xs i=Ob x):0<=i/\i<xs.length/\i.toNat<xs.length/\xs[i.toNat]?=Ob x:=by
 unfold idx at h;split at h
 . have:=(List.getElem?_eq_some_iff.1 h).1;exact ⟨by assumption,by omega,this,h⟩
 . cases h
theorem zw6 {A:Type} {R:Rep A} {z:Store} {v:zb} {xs:List A} {i:Int} {x:A} {st et:TypeId} {k:IntKind} (hsl:Sl T st et R) (r:zgO R z v xs) (hi:idx xs i=Ob x):∃ a,zdB T st v (.int k i)=Ob a/\zq1 R z a x:=by
 obtain ⟨h0,h1,h2,h3⟩:=zfq hi;rcases r.2 with ⟨rfl,rfl⟩ | ⟨b,off,cap,rfl,rfl,_⟩ | ⟨b,off,cap,cells,ro,rfl,hg,hl,_,hx⟩
 . simp at h2
 . simp at h2
 . refine ⟨.ptr b (off+i.toNat*R.sz), ?_,b,_,cells,ro,rfl,hg, ?_,hx _ _ h3⟩
   . simp only [zdB,hsl.und,hsl.sz];rw [if_pos (by exact ⟨h0,by omega,by trivial⟩)]
   . have:(i.toNat+1)*R.sz<=xs.length*R.sz:=Nat.mul_le_mul_right _ h2;rw [Nat.add_mul] at this;omega
theorem zA1 {A:Type} {R:Rep A} {x y:Operand} {xs:List A} {st et:TypeId} {k:IntKind} {i:Int} {a:A} (hsl:Sl T st et R) (hi:idx xs i=Ob a) (hw:Want ops M Od o.guard) (ho:o.op=.indexAddr st x y) (hd:o.dst=Ob t)
 (hx:Opd M x (.val (ze R) xs)) (hy:Opd M y (.val (zi k) i)) (r:zr C T d ops rest ((t,.val (zaO R) a)::M) L Q):zr C T d ops (o::rest) M L Q:=by
 refine zal (by rw [ho]; rfl) hw hd (λz fr h s=>?_) r;obtain ⟨p,h1,h2⟩:=zw6 (k:=k) hsl (zgR (hx.val s.fr)) hi;refine ⟨p, ?_,by simp only [TE.ok]; exact zfT h2⟩;rw [ho];simp only [aop,hy.int s.fr,h1,zae,Option.map]
theorem zzy {A:Type} {R:Rep A} {x y:Operand} {xs:List A} {st et:TypeId} {kk:IntKind} {i:Int} {a:A} {v:zb} (k:Nat) (hsl:Sl T st et R) (hi:idx xs i=Ob a) (hw:Want ops M Od o.guard) (ho:o.op=.indexAddr st x y) (hd:o.dst=Ob t)
 (hx:Opd M x (.raw v)) (hk:L[k]?=Ob (v,.row R xs)) (hy:Opd M y (.val (zi kk) i)) (r:zr C T d ops rest ((t,.elt v i.toNat 0)::M) L Q):zr C T d ops (o::rest) M L Q:=by
 refine zal (by rw [ho]; rfl) hw hd (λz fr h s=>?_) r;obtain ⟨h0,h1,h2,h3⟩:=zfq hi;have hr:=s.own.ok _ (List.mem_of_getElem? hk);simp only [Obj.ok] at hr;rcases hr.2 with ⟨rfl,rfl⟩ | ⟨b,off,cap,cells,rfl,_⟩
 . simp at h2
 . refine ⟨.ptr b (off+i.toNat*R.sz), ?_,by simp only [TE.ok]; exact ⟨b,off,_,_,_,rfl,by simp⟩⟩;rw [ho];simp only [aop,hy.int s.fr,hx.raw s.fr,zdB,hsl.und,hsl.sz];rw [if_pos (by exact ⟨h0,by omega,by trivial⟩)];rfl
theorem zzz {A:Type} {R:Rep A} {x:Operand} {et:TypeId} {a:A} (hu:Und T et R) (hw:Want ops M Od o.guard) (ho:o.op=.load et x) (hd:o.dst=Ob t)
 (hx:Opd M x (.val (zaO R) a)) (r:zr C T d ops rest ((t,.val R a)::M) L Q):zr C T d ops (o::rest) M L Q:=by
 have hf:∀ z fr h,StZ C M L z fr h->foot fr.op o=⟨zN (fr.op x),Oc,[],Oc⟩:=λz fr h s=>by unfold foot; rw [ho]
 refine zgh (.f λz fr h s=>by rw [hf z fr h s]; exact ⟨rfl,rfl,zsj (zir (hx.val s.fr)),λq=>by rw [ho] at q; cases q⟩) (λz fr h s=>by rw [hf z fr h s]; exact ⟨zAG s.sub (zir (hx.val s.fr)),λb hb=>(nomatch hb)⟩) hw hd (λz fr h s=>?_) r;obtain ⟨b,off,cells,ro,h1,h2,h3,h4⟩:=zir (hx.val s.fr);obtain ⟨v,h5,h6⟩:=zgd hu.sz hu.agg h3 h4;refine ⟨v, ?_,by simp only [TE.ok]; exact h6⟩;rw [ho];simp only [aop,h1,aload,(s.sub _ _ h2).1,h5,zae,Option.map]
theorem zeu {A:Type} {R:Rep A} {xs:List A} {off i:Nat} {x:A} {cells:List zb} (hl:off+xs.length*R.sz<=cells.length) (hx:xs[i]?=Ob x):off+i*R.sz+R.sz<=cells.length:=by
 have h2:=(List.getElem?_eq_some_iff.1 hx).1;have:(i+1)*R.sz<=xs.length*R.sz:=Nat.mul_le_mul_right _ h2;rw [Nat.add_mul] at this;omega
theorem zmv {A B:Type} {R:Rep A} {S:Rep B} {g:A->B} {w:A->B->A} {x:Operand} {et:TypeId} {a:A} {xs:List A} {v:zb} {i off:Nat} (k:Nat) (hls:Listed d ops rest) (hu:Und T et S) (hf:FOk R off S g w) (hi:xs[i]?=Ob a) (hw:Want ops M Od o.guard) (ho:o.op=.load et x) (hd:o.dst=Ob t)
 (hx:Opd M x (.elt v i off)) (hk:L[k]?=Ob (v,.row R xs)) (r:zr C T d ops rest ((t,.val S (g a))::M) L Q):zr C T d ops (o::rest) M L Q:=by
 have hft:∀ z fr h,StZ C M L z fr h->foot fr.op o=⟨zN (fr.op x),Oc,[],Oc⟩:=λz fr h s=>by unfold foot; rw [ho]
 refine zgh (.l hls (by rw [ho]; rfl) (by rw [ho]; rfl)) (λz fr h s=>by
  rw [hft z fr h s];refine ⟨λb hb=>?_,λb hb=>(nomatch hb)⟩;have hp:=hx.ok s.fr;simp only [TE.ok] at hp;obtain ⟨bb,oo,len,es,cap,q,hp⟩:=hp;rw [hp] at hb;refine zit s hk rfl b ?_;subst q;simpa [zN] using hb) hw hd (λz fr h s=>?_) r
 have hr:=s.own.ok _ (List.mem_of_getElem? hk);simp only [Obj.ok] at hr;have hp:=hx.ok s.fr;simp only [TE.ok] at hp;obtain ⟨b,oo,len,es,cap,rfl,hp⟩:=hp;rcases hr.2 with ⟨q,_⟩ | ⟨b',off',cap',cells,q,h2,h3,_,h5⟩
 . cases q
 . cases q;have h6:=zeu h3 hi;have h7:=hf.get _ _ _ (h5 _ _ hi);have hfit:=hf.fit;rw [List.drop_take,List.take_take,List.drop_drop,Nat.min_eq_left J] at h7;obtain ⟨u,h8,h9⟩:=zgd hu.sz hu.agg J h7;refine ⟨u, ?_,by simp only [TE.ok]; exact h9⟩;rw [ho];simp only [aop,hp,aload,h2,h8,zae,Option.map]
theorem zo2 {s:TypeId} {i:Nat} {ft:TypeId} {off n:Nat} (h:Fld T s i ft off n) (hn:0<n) (b q:Nat):zfD T s (.ptr b q) i=Ob (.ptr b (q+off)):=by
 obtain ⟨⟨fs,f,h1,h2,h3,h4⟩,h5⟩:=h;subst h3 h4;simp only [zfD,h1,h2,h5];rw [if_neg J]
theorem zCc {A B:Type} {R:Rep A} {S:Rep B} {g:A->B} {w:A->B->A} {x:Operand} {s ft:TypeId} {i off:Nat} {a:A} (hf:Fld T s i ft off S.sz) (hg:FOk R off S g w) (hp:0<S.sz) (hw:Want ops M Od o.guard) (ho:o.op=.fieldAddr s x i) (hd:o.dst=Ob t)
 (hx:Opd M x (.val (zaO R) a)) (r:zr C T d ops rest ((t,.val (zaO S) (g a))::M) L Q):zr C T d ops (o::rest) M L Q:=by
 refine zal (by rw [ho]; rfl) hw hd (λz fr h s=>?_) r;obtain ⟨b,q,cells,ro,h1,h2,h3,h4⟩:=zir (hx.val s.fr);have h7:=hg.get _ _ _ h4;have hfit:=hg.fit;rw [List.drop_take,List.take_take,List.drop_drop,Nat.min_eq_left J] at h7;refine ⟨.ptr b (q+off), ?_,by simp only [TE.ok]; exact zfT ⟨b,_,cells,ro,rfl,h2,by omega,h7⟩⟩;rw [ho];simp only [aop,h1,zo2 hf hp,zae,Option.map]
theorem zw7 {x:Operand} {s ft:TypeId} {i off off0 n j:Nat} {v:zb} (hf:Fld T s i ft off n) (hp:0<n) (hw:Want ops M Od o.guard) (ho:o.op=.fieldAddr s x i) (hd:o.dst=Ob t)
 (hx:Opd M x (.elt v j off0)) (r:zr C T d ops rest ((t,.elt v j (off0+off))::M) L Q):zr C T d ops (o::rest) M L Q:=by
 refine zal (by rw [ho]; rfl) hw hd (λz fr h s=>?_) r;have hq:=hx.ok s.fr;simp only [TE.ok] at hq;obtain ⟨b,oo,len,es,cap,rfl,hq⟩:=hq;refine ⟨.ptr b (oo+j*es+off0+off), ?_,by simp only [TE.ok]; exact ⟨b,oo,len,es,cap,rfl,by simp [Nat.add_assoc]⟩⟩;rw [ho];simp only [aop,hq,zo2 hf hp,zae,Option.map]
theorem zw8 {x:Operand} {s ft:TypeId} {i off q n b:Nat} (hf:Fld T s i ft off n) (hp:0<n) (hw:Want ops M Od o.guard) (ho:o.op=.fieldAddr s x i) (hd:o.dst=Ob t)
 (hx:Opd M x (.raw (.ptr b q))) (r:zr C T d ops rest ((t,.raw (.ptr b (q+off)))::M) L Q):zr C T d ops (o::rest) M L Q:=by
 refine zal (by rw [ho]; rfl) hw hd (λz fr h s=>⟨.ptr b (q+off), ?_,by simp only [TE.ok]⟩) r;rw [ho];simp only [aop,hx.raw s.fr,zo2 hf hp,zae,Option.map]
theorem zw9 {A:Type} {R:Rep A} {x:Operand} {a:A} (hw:Want ops M Od o.guard) (ho:o.op=.nilCheck x) (hd:o.dst=Ob t)
 (hx:Opd M x (.val (zaO R) a)) (r:zr C T d ops rest ((t,.val (zaO R) a)::M) L Q):zr C T d ops (o::rest) M L Q:=by
 refine zal (by rw [ho]; rfl) hw hd (λz fr h s=>?_) r;obtain ⟨b,q,cells,ro,h1,h2⟩:=zir (hx.val s.fr);refine ⟨.ptr b q, ?_,by simp only [TE.ok]; exact zfT ⟨b,q,cells,ro,rfl,h2⟩⟩;rw [ho];simp only [aop,h1,zdC]
theorem zuK {x:Operand} {b q:Nat} (hw:Want ops M Od o.guard) (ho:o.op=.nilCheck x) (hd:o.dst=Ob t)
 (hx:Opd M x (.raw (.ptr b q))) (r:zr C T d ops rest ((t,.raw (.ptr b q))::M) L Q):zr C T d ops (o::rest) M L Q:=
 zal (by rw [ho]; rfl) hw hd (λz fr h s=>⟨.ptr b q,by rw [ho]; simp only [aop,hx.raw s.fr,zdC],by simp only [TE.ok]⟩) r
theorem zxa {A B:Type} {R:Rep A} {S:Rep B} {g:A->B} {w:A->B->A} {x:Operand} {s ft:TypeId} {i off n:Nat} {a:A} (hf:Fld T s i ft off n) (hu:Und T ft S) (hR:R.agg=Od) (hg:FOk R off S g w) (hw:Want ops M Od o.guard) (ho:o.op=.field s x i) (hd:o.dst=Ob t)
    (hx:Opd M x (.val R a)) (r:zr C T d ops rest ((t,.val S (g a))::M) L Q):zr C T d ops (o::rest) M L Q:=by
  refine zal (by rw [ho]; rfl) hw hd (λz fr h s=>?_) r;have hv:=hx.val s.fr;obtain ⟨⟨fs,f,h1,h2,h3,h4⟩,h5⟩:=hf;subst h3 h4;have hc:=hv.agg;rw [hR] at hc;cases hq:fr.op x with
  | agg cs=>
    rw [hq] at hv;have hrel:=hv.rel;simp only [zb.cells] at hrel;obtain ⟨u,h8,h9⟩:=zgd (cells:=cs) hu.sz hu.agg (by rw [R.len _ _ _ hrel]; exact hg.fit) (hg.get _ _ _ hrel);refine ⟨u, ?_,by simp only [TE.ok]; exact h9⟩;rw [ho];simp only [aop,hq,afield,h1,h2,h8,zae,Option.map]
  | _=>rw [hq] at hc; cases hc
theorem zA2 {x:Operand} {es:List TE} {e:TE} {i:Nat} (hi:es[i]?=Ob e) (hw:Want ops M Od o.guard) (ho:o.op=.extract x i) (hd:o.dst=Ob t)
    (hx:Opd M x (.tup es)) (r:zr C T d ops rest ((t,e)::M) L Q):zr C T d ops (o::rest) M L Q:=by
  refine zal (by rw [ho]; rfl) hw hd (λz fr h s=>?_) r;have hq:=hx.ok s.fr;simp only [TE.ok] at hq;obtain ⟨vs,h1,h2⟩:=hq;have key:∀ (es:List TE) (vs:List zb) (i:Nat),zG z es vs->es[i]?=Ob e->∃ v,vs[i]?=Ob v/\e.ok z v:=by
    intro es;induction es with
    | nil=>intro vs i _ h; simp at h
    | cons a es ih=>
      intro vs i h hi;simp only [zG] at h;obtain ⟨v,vs',rfl,h1,h2⟩:=h;cases i with
      | zero=>simp at hi; subst hi; exact ⟨v,rfl,h1⟩
      | succ i=>simpa using ih vs' i h2 (by simpa using hi)
  obtain ⟨v,h3,h4⟩:=key es vs i h2 hi;refine ⟨v, ?_,h4⟩;rw [ho];simp only [aop,h1,zfN,h3,zae,Option.map]
theorem zmw {A:Type} {R:Rep A} {x:Operand} {lo hi:Option Operand} {xs:List A} {st et:TypeId} {i j:Int} {kl kh:IntKind} (hsl:Sl T st et R) (hij:0<=i/\i<=j/\j<=zp xs) (hw:Want ops M Od o.guard) (ho:o.op=.slice st x lo hi Oe) (hd:o.dst=Ob t)
    (hx:Opd M x (.val (ze R) xs)) (hlo:(lo=Oe/\i=0)\/∃ y,lo=Ob y/\Opd M y (.val (zi kl) i)) (hhi:(hi=Oe/\j=zp xs)\/∃ y,hi=Ob y/\Opd M y (.val (zi kh) j))
    (r:zr C T d ops rest ((t,.val (ze R) ((xs.take j.toNat).drop i.toNat))::M) L Q):zr C T d ops (o::rest) M L Q:=by
  refine zal (by rw [ho]; rfl) hw hd (λz fr h s=>?_) r;obtain ⟨hi0,hij,hj⟩:=hij;unfold zp at hj hhi;have hr:=zgR (hx.val s.fr);have blo:∀ top:Nat,j.toNat<=top->abound (lo.map fr.op) 0 j.toNat=Ob i.toNat:=by
    intro top _;rcases hlo with ⟨rfl,rfl⟩ | ⟨y,rfl,hy⟩
    · rfl
    · simp only [Option.map,abound,hy.int s.fr];rw [if_pos ⟨hi0,by omega⟩]
  have bhi:∀ n:Nat,n=xs.length->abound (hi.map fr.op) n n=Ob j.toNat:=by
    intro n hn;rcases hhi with ⟨rfl,rfl⟩ | ⟨y,rfl,hy⟩
    · subst hn; simp [abound]
    · simp only [Option.map,abound,hy.int s.fr];rw [if_pos ⟨by omega,by omega⟩]
  have hlen:((xs.take j.toNat).drop i.toNat).length=j.toNat-i.toNat:=by simp; omega
  rcases hr.2 with ⟨q,rfl⟩ | ⟨b,off,cap,q,rfl,hg⟩ | ⟨b,off,cap,cells,ro,q,hg,hl,hcap,hel⟩
  · have:j=0:=by simp at hj; omega
    subst this;have b1:=bhi 0 rfl;have b2:=blo 0 (Nat.le_refl _);rw [Int.toNat_zero] at b1 b2;refine ⟨.nsz, ?_,by simp only [TE.ok]; simpa using zbo zi7⟩;rw [ho];simp only [aop,aslice,hsl.und,hsl.sz,q,Option.map_none,b1,b2,zae,Option.map_some]
  · have:j=0:=by simp at hj; omega
    subst this;have:i=0:=J
    subst this;have b1:=bhi 0 rfl;have b2:=blo 0 (Nat.le_refl _);rw [Int.toNat_zero] at b1 b2;have fin:∀ cap',TV (ze R) z (.slice b (off+0*R.sz) (0-0) R.sz cap') ((([]:List A).take (0:Int).toNat).drop (0:Int).toNat):=λcap'=>by
      simpa using zbo (R:=R) (xs:=[]) ⟨by simp [maxLen],.inr (.inl ⟨b,_,_,rfl,rfl,hg⟩)⟩
    rw [ho];cases cap with
    | none=>
      refine ⟨_, ?_,by simp only [TE.ok]; exact fin Oe⟩;simp only [aop,aslice,hsl.und,hsl.sz,q,Option.map_none,b1,b2,zae,Option.map_some];rw [if_pos ⟨trivial,hsl.pos⟩];rfl
    | some c=>
      have b3:abound Oe c c=Ob c:=rfl;have b4:abound (hi.map fr.op) 0 c=Ob 0:=by
        rcases hhi with ⟨rfl,_⟩ | ⟨y,rfl,hy⟩
        · rfl
        · simp only [Option.map,abound,hy.int s.fr]; rw [if_pos ⟨by omega,by omega⟩]; rfl
      refine ⟨_, ?_,by simp only [TE.ok]; exact fin (Ob (c-0))⟩;simp only [aop,aslice,hsl.und,hsl.sz,q,Option.map_none,b3,b4,b2,zae,Option.isSome_none,Bool.false_and];rw [if_pos ⟨trivial,hsl.pos⟩];simp [b2]
  · have b1:=bhi xs.length rfl;have b2:=blo xs.length J;have hmul:i.toNat*R.sz+(j.toNat-i.toNat)*R.sz<=xs.length*R.sz:=by rw [← Nat.add_mul]; exact Nat.mul_le_mul_right _ J
    have row:∀ cap':Option Nat,(∀ c,cap'=Ob c->j.toNat-i.toNat<=c)->zgO R z (.slice b (off+i.toNat*R.sz) (j.toNat-i.toNat) R.sz cap') ((xs.take j.toNat).drop i.toNat):=by
      intro cap' hc';refine ⟨by rw [hlen]; have:=hr.1; omega,.inr (.inr ⟨b,_,_,cells,ro,by rw [hlen],hg,by rw [hlen]; omega,by rw [hlen]; exact hc',λn y hy=>?_⟩)⟩;rw [List.getElem?_drop] at hy;have hy':xs[i.toNat+n]?=Ob y:=by
        rw [List.getElem?_take] at hy;split at hy
        · exact hy
        · cases hy
      have:=hel _ _ hy';rw [Nat.add_mul] at this;rw [Nat.add_assoc]; exact this
    rw [ho];cases cap with
    | none=>
      refine ⟨_, ?_,by simp only [TE.ok]; exact zbo (row Oe (λc q=>by cases q))⟩;simp only [aop,aslice,hsl.und,hsl.sz,q,Option.map_none,b1,b2,zae,Option.map_some];rw [if_pos ⟨trivial,hsl.pos⟩];rfl
    | some c=>
      have hc:=hcap c rfl;have b3:abound Oe c c=Ob c:=rfl;have b4:abound (hi.map fr.op) xs.length c=Ob j.toNat:=by
        rcases hhi with ⟨rfl,e⟩ | ⟨y,rfl,hy⟩
        · subst e; simp [abound]
        · simp only [Option.map,abound,hy.int s.fr]; rw [if_pos ⟨by omega,by omega⟩]
      refine ⟨_, ?_,by simp only [TE.ok]; exact zbo (row (Ob (c-i.toNat)) (λc' q=>by cases q; omega))⟩;simp only [aop,aslice,hsl.und,hsl.sz,q,Option.map_none,b3,b4,b2,zae,Option.isSome_none,Bool.false_and];rw [if_pos ⟨trivial,hsl.pos⟩];simp [b2]
end
def zhG {A:Type} (n:Nat) (R:Rep A):Rep (List A):=
 ⟨n*R.sz,Od,λz cs xs=>xs.length=n/\cs.length=n*R.sz/\cs.all zb.one=Od/\∀ i x,xs[i]?=Ob x->R.rel z ((cs.drop (i*R.sz)).take R.sz) x,
  λ_ _ _ h=>h.2.1,λ_ _ _ _ e h=>⟨h.1,h.2.1,h.2.2.1,λi x hx=>R.mono _ _ _ _ e (h.2.2.2 i x hx)⟩,λh=>(by cases h),λ_ _ _ h=>h.2.2.1⟩
theorem zi8 {A:Type} {R:Rep A} {z:Store} {xs:List A} {l:List zb} (hp:0<R.sz) (hl:l.length=xs.length*R.sz) (h:∀ i x,xs[i]?=Ob x->R.rel z ((l.drop (i*R.sz)).take R.sz) x):l.all zb.one=Od:=by
 refine List.all_eq_true.2 λc hc=>?_;obtain ⟨j,hj,rfl⟩:=List.getElem_of_mem hc;have hi:j/R.sz<xs.length:=by rw [Nat.div_lt_iff_lt_mul hp]; omega
 have h1:=R.ones _ _ _ (h _ _ (List.getElem?_eq_getElem hi));rw [List.all_eq_true] at h1;refine h1 _ (List.mem_of_getElem? (i:=j%R.sz) ?_);have hm:=Nat.mod_lt j hp;have e:=Nat.div_add_mod j R.sz;rw [Nat.mul_comm] at e;rw [List.getElem?_take,if_pos hm,List.getElem?_drop,e];simp
structure Ar1 (T:Tab) (at_:TypeId) (et:TypeId) (n:Nat) {A:Type} (R:Rep A):Prop where
 und:T.und at_=Ob (.array n et)
 sz:szT T et=Ob R.sz
 agg:zea T et=Ob R.agg
 whole:szT T at_=Ob (n*R.sz)
 isagg:zea T at_=Ob Od
 pos:0<R.sz
def zeQ:Own->Nat->zb×Obj->Option Own
 | [],_,_=>Oe
 | _::l,0,e=>Ob (e::l)
 | p::l,n+1,e=>match zeQ l n e with
  | some l'=>Ob (p::l')
  | none=>Oe
def zcW:Own->Nat->Option Own
 | [],_=>Oe
 | _::l,0=>Ob l
 | p::l,n+1=>match zcW l n with
  | some l'=>Ob (p::l')
  | none=>Oe
theorem ziu:∀ {L L':Own} {k:Nat} {e:zb×Obj},zeQ L k e=Ob L'->L'=L.set k e/\k<L.length
 | [],_,_,_,h=>by cases h
 | _::_,_,0,_,h=>by cases h; exact ⟨rfl,by simp⟩
 | p::l,_,n+1,e,h=>by
  simp only [zeQ] at h;split at h
  . rename_i l' h';cases h;obtain ⟨h1,h2⟩:=ziu h';exact ⟨by rw [h1]; rfl,by simpa using h2⟩
  . cases h
theorem ziv:∀ {L L':Own} {k:Nat},zcW L k=Ob L'->L'=L.eraseIdx k
 | [],_,_,h=>by cases h
 | _::_,_,0,h=>by cases h; rfl
 | p::l,_,n+1,h=>by
  simp only [zcW] at h;split at h
  . rename_i l' h';cases h;rw [ziv h']; rfl
  . cases h
theorem zkr {α β:Type _} {f:α->List β} {l l':List α} (h:l.Sublist l'):(l.flatMap f).Sublist (l'.flatMap f):=by
 induction h with
 | slnil=>exact List.Sublist.refl _
 | cons a _ ih=>simp only [List.flatMap_cons]; exact ih.trans (List.sublist_append_right _ _)
 | cons_cons a _ ih=>simp only [List.flatMap_cons]; exact (List.Sublist.refl _).append ih
def _root_.Go.Ai.Store.add (z:Store) (b:Nat) (x:zf8):Store:=λk=>if k=b then Ob x else z k
theorem zjA {z:Store} {b:Nat} {x:zf8} (h:z b=Oe):z.le (z.add b x):=λk y hk=>by
 unfold Store.add;rw [if_neg (λe=>by subst e; rw [h] at hk; cases hk)]; exact hk
theorem ziw {z:Store} {b:Nat} {x:zf8}:z.add b x b=Ob x:=by unfold Store.add; rw [if_pos rfl]
theorem add_ne {z:Store} {b k:Nat} {x:zf8} (h:k≠b):z.add b x k=z k:=by unfold Store.add; rw [if_neg h]
section
variable {C:Ctx} {T:Tab} {d:Option (List Nat)} {ops rest:List Oper} {M:Env} {L:Own} {Q:zg->za->Prop} {P:zaC->zg->za->Prop} {o:Oper} {t:Nat} {z:Store} {fr:zg} {h:za}
theorem StZ.next_none (s:StZ C M L z fr h):z h.next=Oe:=by
 cases e:z h.next with
 | none=>rfl
 | some x=>exact absurd (s.sub _ _ e).2 (Nat.lt_irrefl _)
theorem StZ.upd (s:StZ C M L z fr h) {k:Nat} {v v':zb} {ob ob':Obj} {b:Nat} (hk:L[k]?=Ob (v,ob)) (hb:zfl (v,ob)=[b]) (hb':zfl (v',ob')=[b]) (x:zf8) (ho:ob'.ok z (h.set b x) v') {L':Own} (hL:zeQ L k (v',ob')=Ob L'):StZ C M L' z fr (h.set b x):=by
 obtain ⟨rfl,hlt⟩:=ziu hL;obtain ⟨o1,o2,o3⟩:=s.own.out _ (List.mem_of_getElem? hk) b (by rw [hb]; simp);have cases_:∀ p∈L.set k (v',ob'),p=(v',ob')\/∃ j,j≠k/\L[j]?=Ob p:=by
  intro p hp;obtain ⟨j,hj,e⟩:=List.getElem_of_mem hp;rw [List.getElem_set] at e;by_cases q:k=j
  ·rw [if_pos q] at e; exact .inl e.symm
  ·rw [if_neg q] at e; exact .inr ⟨j,Ne.symm q,by rw [← e]; exact List.getElem?_eq_getElem _⟩
 refine { zle:=s.zle,sub:=?_,old:=s.old,fr:=s.fr,own:=⟨?_, ?_, ?_⟩,chg:=⟨s.chg.next, ?_, ?_, ?_⟩ }
 ·intro c y hc;obtain ⟨h1,h2⟩:=s.sub c y hc;refine ⟨?_,h2⟩;rw [za.get_set,if_neg (λe=>by subst e; rw [o1] at hc; cases hc)]; exact h1
 ·intro p hp;rcases cases_ p hp with rfl | ⟨j,hj,hjp⟩
  ·exact ho
  ·refine Obj.ok_mono (.refl _) (λc hc=>?_) (s.own.ok p (List.mem_of_getElem? hjp));rw [za.get_set,if_neg];intro e;subst e;exact hj (zdE s.own.nodup hjp hk hc (by rw [hb]; simp))
 ·intro p hp;rcases cases_ p hp with rfl | ⟨j,hj,hjp⟩
  ·intro c hc; rw [hb',List.mem_singleton] at hc; subst hc; exact ⟨o1,o2,o3⟩
  ·exact s.own.out p (List.mem_of_getElem? hjp)
 ·have key:∀ (L:Own) (k:Nat),L[k]?=Ob (v,ob)->blks (L.set k (v',ob'))=blks L:=by
   intro L;induction L with
   | nil=>intro k h; simp at h
   | cons p L ih=>
    intro k h;cases k with
    | zero=>
     simp at h; subst h;rw [List.set_cons_zero,zP,zP,hb,hb']
    | succ k=>
     have:=ih k (by simpa using h);rw [List.set_cons_succ,zP,zP,this]
  rw [key L k hk]; exact s.own.nodup
 ·intro c hc hB;rw [za.get_set,if_neg]
  ·exact s.chg.same c hc hB
  ·intro e; subst e;rcases o3 with q | q
   ·omega
   ·exact hB q
 ·intro m m1 m2 m3;have:=s.chg.wm m m1 m2 m3;have hb':m<=b:=by
   rcases o3 with q | q
   ·exact Nat.le_trans m2 q
   ·exact m3 _ q
  show m<=min h.wm b;omega
 ·show min h.wm b<=h.next;have:=s.chg.ok; omega
theorem StZ.drop (s:StZ C M L z fr h) {k:Nat} {L':Own} (hL:zcW L k=Ob L'):StZ C M L' z fr h:=by
 have:=ziv hL;subst this;have hs:(L.eraseIdx k).Sublist L:=List.eraseIdx_sublist L k;refine { s with own:=⟨λp hp=>s.own.ok p (hs.subset hp),λp hp=>s.own.out p (hs.subset hp), ?_⟩ };exact List.Nodup.sublist (zkr hs) s.own.nodup
theorem zcO:∀ {L L':Own} {k:Nat} {e:zb×Obj},L[k]?=Ob e->zcW L k=Ob L'->(e::L').Perm L
 | [],_,_,_,h,_=>by simp at h
 | p::l,_,0,e,h,h'=>by simp at h; cases h'; subst h; exact .refl _
 | p::l,_,n+1,e,h,h'=>by
  simp only [zcW] at h';split at h'
  . rename_i l' h2;cases h';exact (List.Perm.swap p e l').trans ((zcO (by simpa using h) h2).cons p)
  . cases h'
theorem StZ.front (s:StZ C M L z fr h) {k:Nat} {e:zb×Obj} {L':Own} (hk:L[k]?=Ob e) (hL:zcW L k=Ob L'):StZ C M (e::L') z fr h:=by
 have hp:=zcO hk hL;refine { s with own:=⟨λp hp'=>s.own.ok p (hp.mem_iff.1 hp'),λp hp'=>s.own.out p (hp.mem_iff.1 hp'), ?_⟩ };exact (List.Perm.flatMap_right _ hp).nodup_iff.2 s.own.nodup
theorem StZ.wild (s:StZ C M L z fr h) {b:Nat} (o1:z b=Oe) (o2:b<h.next) (o3:C.h0.next<=b\/b∈C.B0) (hn:b∉blks L) (x:zf8):StZ C M L z fr (h.set b x):=by
 refine { zle:=s.zle,sub:=?_,old:=s.old,fr:=s.fr,own:=⟨?_,s.own.out,s.own.nodup⟩,chg:=⟨s.chg.next, ?_, ?_, ?_⟩ }
 . intro c y hc;obtain ⟨h1,h2⟩:=s.sub c y hc;exact ⟨by rw [za.get_set,if_neg (λe=>by subst e; rw [o1] at hc; cases hc)]; exact h1,h2⟩
 . intro p hp;refine Obj.ok_mono (.refl _) (λc hc=>?_) (s.own.ok p hp);rw [za.get_set,if_neg];intro e; subst e;exact hn (zbF.2 ⟨p,hp,hc⟩)
 . intro c hc hB;rw [za.get_set,if_neg]
   . exact s.chg.same c hc hB
   . intro e; subst e;rcases o3 with q | q
     . omega
     . exact hB q
 . intro m m1 m2 m3;have:=s.chg.wm m m1 m2 m3;have hb':m<=b:=by
    rcases o3 with q | q
    . exact Nat.le_trans m2 q
    . exact m3 _ q
   show m<=min h.wm b;omega
 . show min h.wm b<=h.next;have:=s.chg.ok; omega
theorem StZ.push (s:StZ C M L z fr h) (x:zf8):StZ C M L (z.add h.next x) fr (h.push x):=by
 have hle:z.le (z.add h.next x):=zjA s.next_none;refine { zle:=s.zle.trans hle,sub:=?_,old:=?_,fr:=s.fr.mono hle,own:=⟨?_, ?_,s.own.nodup⟩,chg:=⟨?_, ?_,s.chg.wm, ?_⟩ }
 . intro b y hb;by_cases e:b=h.next
   . subst e;rw [ziw] at hb; cases hb;exact ⟨by rw [za.get_push,if_pos rfl],by rw [za.next_push]; omega⟩
   . rw [add_ne e] at hb;obtain ⟨h1,h2⟩:=s.sub b y hb;exact ⟨by rw [za.get_push,if_neg e]; exact h1,by rw [za.next_push]; omega⟩
 . intro b hb hB;rw [add_ne (by have:=s.chg.next; omega)]; exact s.old b hb hB
 . intro p hp;refine Obj.ok_mono hle (λb hb=>?_) (s.own.ok p hp);rw [za.get_push,if_neg (by have:=(s.own.out p hp b hb).2.1; omega)]
 . intro p hp b hb;obtain ⟨o1,o2,o3⟩:=s.own.out p hp b hb;exact ⟨by rw [add_ne J]; exact o1,by rw [za.next_push]; omega,o3⟩
 . rw [za.next_push]; have:=s.chg.next; omega
 . intro b hb hB;rw [za.get_push,if_neg (by have:=s.chg.next; omega)]; exact s.chg.same b hb hB
 . show h.wm<=h.next+1;have:=s.chg.ok; omega
theorem StZ.pushOwn (s:StZ C M L z fr h) (x:zf8) {v:zb} {ob:Obj} (hv:zfl (v,ob)=[h.next]) (ho:ob.ok z (h.push x) v):StZ C M ((v,ob)::L) z fr (h.push x):=by
 refine { zle:=s.zle,sub:=?_,old:=s.old,fr:=s.fr,own:=⟨?_, ?_, ?_⟩,chg:=⟨?_, ?_,s.chg.wm, ?_⟩ }
 . intro b y hb;obtain ⟨h1,h2⟩:=s.sub b y hb;exact ⟨by rw [za.get_push,if_neg J]; exact h1,by rw [za.next_push]; omega⟩
 . intro p hp;rcases List.mem_cons.1 hp with rfl | hp
   . exact ho
   . refine Obj.ok_mono (.refl _) (λb hb=>?_) (s.own.ok p hp);rw [za.get_push,if_neg (by have:=(s.own.out p hp b hb).2.1; omega)]
 . intro p hp b hb;rcases List.mem_cons.1 hp with rfl | hp
   . rw [hv,List.mem_singleton] at hb; subst hb;exact ⟨s.next_none,by rw [za.next_push]; omega,.inl s.chg.next⟩
   . obtain ⟨o1,o2,o3⟩:=s.own.out p hp b hb;exact ⟨o1,by rw [za.next_push]; omega,o3⟩
 . rw [zP,hv];refine List.nodup_cons.2 ⟨λhm=>?_,s.own.nodup⟩;obtain ⟨p,hp,hb⟩:=zbF.1 hm;have:=(s.own.out p hp _ hb).2.1;omega
 . rw [za.next_push]; have:=s.chg.next; omega
 . intro b hb hB;rw [za.get_push,if_neg (by have:=s.chg.next; omega)]; exact s.chg.same b hb hB
 . show h.wm<=h.next+1;have:=s.chg.ok; omega
theorem StZ.nilrow {A:Type} (R:Rep A) (s:StZ C M L z fr h):StZ C M ((.nsz,.row R [])::L) z fr h:=by
 refine { s with own:=⟨λp hp=>?_,λp hp b hb=>?_, ?_⟩ }
 . rcases List.mem_cons.1 hp with rfl | hp
   . exact ⟨by simp [maxLen],.inl ⟨rfl,rfl⟩⟩
   . exact s.own.ok p hp
 . rcases List.mem_cons.1 hp with rfl | hp
   . simp [zfl,zhy] at hb
   . exact s.own.out p hp b hb
 . rw [zP]; exact s.own.nodup
def zgS (ts:List Nat) (e:TE) (M:Env):Env:=match ts with
 | []=>M
 | t::ts=>(t,e)::zgS ts e M
def zjB (M:Env) (v:zb):List Nat->Prop
 | []=>True
 | t::ts=>look M t=Ob (.raw v)/\zjB M v ts
theorem zfH {e:TE} {v:zb} (he:e.ok z v):∀ {ts:List Nat},zjB M v ts->ziM z M fr->ziM z (zgS ts e M) fr
 | [],_,hf=>hf
 | t::ts,⟨h1,h2⟩,hf=>by
  have ih:=zfH he h2 hf;intro t' e' hl;simp only [zgS,look] at hl;cases hb:Nat.beq t t' with
  | true=>
   rw [hb] at hl;have:=Nat.eq_of_beq_eq_true hb;subst this;cases hl;have:=hf _ _ h1;simp only [TE.ok] at this;rw [this]; exact he
  | false=>rw [hb] at hl; exact ih t' e' hl
theorem StZ.freeze {A:Type} {R:Rep A} {xs:List A} {v:zb} (s:StZ C M L z fr h) {k:Nat} {L':Own} (hk:L[k]?=Ob (v,.row R xs)) (hL:zcW L k=Ob L'):∃ z',z.le z'/\StZ C M L' z' fr h/\zgO R z' v xs:=by
 have ho:=s.own.ok _ (List.mem_of_getElem? hk);simp only [Obj.ok] at ho;rcases ho.2 with ⟨q,rfl⟩ | ⟨b,off,cap,cells,rfl,h2,h3,h4,h5⟩
 . exact ⟨z,.refl _,s.drop hL,by rw [q]; exact zi7⟩
 . obtain ⟨o1,o2,o3⟩:=s.own.out _ (List.mem_of_getElem? hk) b (by simp [zfl,zhy]);have hle:z.le (z.add b (.arr cells Oc)):=zjA o1;have s':=s.drop hL;have hne:∀ p∈L',∀ c,c∈zfl p->c≠b:=by
    intro p hp c hc e;subst e;rw [ziv hL] at hp;obtain ⟨j,hj,hjp⟩:=List.getElem_of_mem hp;have hj':(L.eraseIdx k)[j]?=Ob p:=by rw [← hjp]; exact List.getElem?_eq_getElem _
    rw [List.getElem?_eraseIdx] at hj';split at hj'
    . have:=zdE s.own.nodup hj' hk hc (by simp [zfl,zhy]); omega
    . have:=zdE s.own.nodup hj' hk hc (by simp [zfl,zhy]); omega
   refine ⟨z.add b (.arr cells Oc),hle,{ zle:=s.zle.trans hle,sub:=?_,old:=?_,fr:=s.fr.mono hle,own:=⟨λp hp=>Obj.ok_mono hle (λ_ _=>rfl) (s'.own.ok p hp),λp hp c hc=>?_,s'.own.nodup⟩,chg:=s.chg }, ?_⟩
   . intro c y hc;by_cases e:c=b
     . subst e; rw [ziw] at hc; cases hc; exact ⟨h2,o2⟩
     . rw [add_ne e] at hc; exact s.sub c y hc
   . intro c hc hB;rw [add_ne]
     . exact s.old c hc hB
     . intro e; subst e;rcases o3 with q | q
       . omega
       . exact hB q
   . obtain ⟨q1,q2,q3⟩:=s'.own.out p hp c hc;exact ⟨by rw [add_ne (hne p hp c hc)]; exact q1,q2,q3⟩
   . exact ⟨ho.1,.inr (.inr ⟨b,off,cap,cells,Oc,rfl,ziw,h3,λc hc=>(h4 c hc).1,λi x hx=>R.mono _ _ _ _ hle (h5 i x hx)⟩)⟩
end
structure Ty (T:Tab) (et:TypeId) {A:Type} (R:Rep A) (bytes:Nat):Prop where
 info:∃ i,T.types.get et=Ob i/\i.bytes=bytes/\i.size=R.sz
 zero:∃ zv,zeJ T et=Ob zv/\zv.cells.length=R.sz
 pos:0<R.sz
structure Zr (T:Tab) (et:TypeId) {A:Type} (R:Rep A) (x:A):Prop where
 zero:∃ zv,zeJ T et=Ob zv/\∀ z,TV R z zv x
section
variable {C:Ctx} {T:Tab} {d:Option (List Nat)} {ops rest:List Oper} {M:Env} {L:Own} {Q:zg->za->Prop} {P:zaC->zg->za->Prop} {o:Oper} {t:Nat} {z:Store} {fr:zg} {h:za}
theorem zlK {c:Code} {M':Env} {L':Own} (q:∀ z fr h,StZ C M L z fr h->∃ z',z.le z'/\StZ C M' L' z' fr h) (r:ze5 C T c M' L' P):ze5 C T c M L P:=λfr h ⟨z,s⟩=>by
 obtain ⟨z',_,s'⟩:=q z fr h s;exact r fr h ⟨z',s'⟩
theorem zdT {A:Type} (R:Rep A):∀ z fr h,StZ C M L z fr h->∃ z',z.le z'/\StZ C M ((.nsz,.row R [])::L) z' fr h:=λz _ _ s=>⟨z,.refl _,s.nilrow R⟩
theorem zix {A:Type} {R:Rep A} {xs:List A} {v:zb} (k:Nat) (ts:List Nat) {L':Own} (hk:L[k]?=Ob (v,.row R xs)) (hL:zcW L k=Ob L') (hts:zjB M v ts):∀ z fr h,StZ C M L z fr h->∃ z',z.le z'/\StZ C (zgS ts (.val (ze R) xs) M) L' z' fr h:=by
 intro z fr h s;obtain ⟨z',hz,s',hr⟩:=s.freeze hk hL;exact ⟨z',hz,{ s' with fr:=zfH (by simp only [TE.ok]; exact zbo hr) hts s'.fr }⟩
theorem zzA {t:Nat} {e:TE} {L':Own} (hrd:Rd C d ops rest M L o) (hft:∀ z fr h,StZ C M L z fr h->zjz z h (foot fr.op o)) (hw:Want ops M Od o.guard) (hd:o.dst=Ob t) (H:∀ z fr h,StZ C M L z fr h->∃ v h' z',aop T fr.op h o.op=Ob (.val v h')/\z.le z'/\StZ C M L' z' fr h'/\e.ok z' v) (r:zr C T d ops rest ((t,e)::M) L' Q):zr C T d ops (o::rest) M L Q:=
 zgc hw hrd λz fr h s=>by
  obtain ⟨v,h',z',h1,hz,h2,h3⟩:=H z fr h s;exact ⟨v,h',z',_,_,h1,hft z fr h s,hz,by rw [hd,zbl]; exact h2.set h3,r⟩
theorem znP {t:Nat} {e:zb->TE} {L':zb->Own} (hrd:Rd C d ops rest M L o) (hft:∀ z fr h,StZ C M L z fr h->zjz z h (foot fr.op o)) (hw:Want ops M Od o.guard) (hd:o.dst=Ob t) (H:∀ z fr h,StZ C M L z fr h->∃ v h' u,aop T fr.op h o.op=Ob (.val v h')/\StZ C M (L' u) z fr h'/\(e u).ok z v) (r:∀ u,zr C T d ops rest ((t,e u)::M) (L' u) Q):zr C T d ops (o::rest) M L Q:=
 zgc hw hrd λz fr h s=>by
  obtain ⟨v,h',u,h1,h2,h3⟩:=H z fr h s;exact ⟨v,h',z,_,_,h1,hft z fr h s,.refl _,by rw [hd,zbl]; exact h2.set h3,r u⟩
theorem ziy {L':Own} (hrd:Rd C d ops rest M L o) (hft:∀ z fr h,StZ C M L z fr h->zjz z h (foot fr.op o)) (hw:Want ops M Od o.guard) (hd:o.dst=Oe) (H:∀ z fr h,StZ C M L z fr h->∃ v h',aop T fr.op h o.op=Ob (.val v h')/\StZ C M L' z fr h') (r:zr C T d ops rest M L' Q):zr C T d ops (o::rest) M L Q:=
 zgc hw hrd λz fr h s=>by
  obtain ⟨v,h',h1,h2⟩:=H z fr h s;exact ⟨v,h',z,_,_,h1,hft z fr h s,.refl _,by rw [hd,zuG]; exact h2,r⟩
theorem zdG {cells vs:List zb} {off:Nat} (h:off+vs.length<=cells.length):(splice cells off vs).length=cells.length:=by
 unfold splice; simp; omega
theorem zhf {cells vs:List zb} {off p n:Nat} (h:off+vs.length<=cells.length) (hd:p+n<=off\/off+vs.length<=p):((splice cells off vs).drop p).take n=(cells.drop p).take n:=by
 apply List.ext_getElem?;intro i;unfold splice;simp only [List.getElem?_take,List.getElem?_drop,List.getElem?_append,List.length_append,List.length_take];repeat' split
 all_goals (try omega)
 all_goals (first | rfl | (congr 1; omega))
theorem zks {cells vs:List zb} {off p n k:Nat} (h:off+n<=cells.length) (hp:p=off+k) (hk:k+vs.length<=n):((splice cells p vs).drop off).take n=((cells.drop off).take n).take k++vs++((cells.drop off).take n).drop (k+vs.length):=by
 subst hp;apply List.ext_getElem?;intro i;unfold splice;simp only [List.getElem?_take,List.getElem?_drop,List.getElem?_append,List.length_append,List.length_take,List.length_drop];repeat' split
 all_goals (try omega)
 all_goals (first | rfl | (congr 1; omega) | (rw [List.getElem?_eq_none J]) | (symm; rw [List.getElem?_eq_none J]))
theorem znQ {i j m:Nat} (h:i≠j):i*m+m<=j*m\/j*m+m<=i*m:=by
 rcases Nat.lt_or_gt_of_ne h with q | q
 . left; have:=Nat.mul_le_mul_right m (show i+1<=j from q); rw [Nat.add_mul] at this; omega
 . right; have:=Nat.mul_le_mul_right m (show j+1<=i from q); rw [Nat.add_mul] at this; omega
theorem zuL {A B:Type} {R:Rep A} {S:Rep B} {g:A->B} {w:A->B->A} {x y:Operand} {et:TypeId} {a:A} {b:B} {xs:List A} {v:zb} {i off:Nat} (k:Nat) (hu:Und T et S) (hf:FOk R off S g w) (hi:xs[i]?=Ob a) (hw:Want ops M Od o.guard) (ho:o.op=.store et x y) (hd:o.dst=Oe)
 (hx:Opd M x (.elt v i off)) (hy:Opd M y (.val S b)) (hk:L[k]?=Ob (v,.row R xs)) {L':Own} (hL:zeQ L k (v,.row R (xs.set i (w a b)))=Ob L') (r:zr C T d ops rest M L' Q):zr C T d ops (o::rest) M L Q:=by
 have hfo:∀ z fr h,StZ C M L z fr h->foot fr.op o=⟨[],Oc,zN (fr.op x),Oc⟩:=λz fr h s=>by unfold foot; rw [ho]
 refine ziy (.w (by rw [ho]; rfl) (λt a q=>by rw [ho] at q; cases q) (by rw [ho]; rfl) (λq=>by rw [ho] at q; cases q)) (λz fr h s=>by
  rw [hfo z fr h s];refine ⟨λb hb=>(nomatch hb),λb hb=>?_⟩;have hp:=hx.ok s.fr;simp only [TE.ok] at hp;obtain ⟨bb,oo,len,es,cap,q,hp⟩:=hp;rw [hp] at hb;refine zet s hk rfl b ?_;subst q;simpa [zN] using hb) hw hd (λz fr h s=>?_) r
 have hr:=s.own.ok _ (List.mem_of_getElem? hk);simp only [Obj.ok] at hr;have hp:=hx.ok s.fr;simp only [TE.ok] at hp;obtain ⟨bb,oo,len,es,cap,rfl,hp⟩:=hp;have hval:=hy.val s.fr;rcases hr.2 with ⟨q,_⟩ | ⟨b',off',cap',cells,q,h2,h3,h4,h5⟩
 . cases q
 . cases q;have h6:=zeu h3 hi;have hfit:=hf.fit;have hlen:=S.len _ _ _ hval.rel;have hin:oo+i*R.sz+off+(fr.op y).cells.length<=cells.length:=J
   refine ⟨.tuple [],h.set bb (.arr (splice cells (oo+i*R.sz+off) (fr.op y).cells) Oc), ?_,s.upd hk rfl rfl _ ?_ hL⟩
   . rw [ho];simp only [aop,hp,astore,h2,hu.sz];rw [if_pos (by exact ⟨hlen,by omega,S.ones _ _ _ hval.rel⟩)];rfl
   . simp only [Obj.ok];refine ⟨by rw [List.length_set]; exact hr.1,.inr ⟨bb,oo,cap,splice cells (oo+i*R.sz+off) (fr.op y).cells,by rw [List.length_set],by rw [za.get_set,if_pos rfl],by rw [zdG hin,List.length_set]; exact h3,by rw [zdG hin,List.length_set]; exact h4,λj u hj=>?_⟩⟩;rw [List.getElem?_set] at hj;by_cases q:i=j
     . subst q;rw [if_pos rfl,if_pos (List.getElem?_eq_some_iff.1 hi).1] at hj;cases hj;rw [zks (k:=off) h6 rfl J,hlen];exact hf.set _ _ _ _ _ (h5 _ _ hi) hval.rel
     . rw [if_neg q] at hj;rw [zhf hin]
       . exact h5 _ _ hj
       . have:=znQ (m:=R.sz) q; omega
theorem zeR (n:Nat) (zc:List zb):(copies n zc).length=n*zc.length:=by
 induction n with
 | zero=>simp [copies]
 | succ n ih=>simp only [copies,List.length_append,ih,Nat.add_mul]; omega
theorem zhg {n i:Nat} (zc:List zb) (h:i<n):((copies n zc).drop (i*zc.length)).take zc.length=zc:=by
 induction n generalizing i with
 | zero=>omega
 | succ n ih=>
  simp only [copies];cases i with
  | zero=>simp
  | succ i=>
   rw [List.drop_append,List.drop_eq_nil_of_le (by rw [Nat.add_mul]; omega),List.nil_append,Nat.add_mul,Nat.one_mul,Nat.add_sub_cancel];exact ih J
inductive Elts (M:Env) {A:Type} (R:Rep A):Nat->List (Nat×Operand)->List A->Prop where
 | n {i:Nat}:Elts M R i [] []
 | c {i:Nat} {x:Operand} {a:A} {ps:List (Nat×Operand)} {as:List A} (h:Opd M x (.val R a)) (r:Elts M R (i+1) ps as):Elts M R i ((i,x)::ps) (a::as)
theorem zkt {A:Type} {R:Rep A} {ps:List (Nat×Operand)} {as:List A} {i:Nat} (e:Elts M R i ps as) (hf:ziM z M fr) (hp:0<R.sz):∀ (cells:List zb),cells.length=(i+as.length)*R.sz ->
    ∃ cells',afill (λi=>Ob (i*R.sz,R.sz)) cells (zdq fr.op ps)=Ob cells'/\cells'.length=cells.length/\(∀ j,j<i->(cells'.drop (j*R.sz)).take R.sz=(cells.drop (j*R.sz)).take R.sz) /\
      ∀ j a,as[j]?=Ob a->R.rel z ((cells'.drop ((i+j)*R.sz)).take R.sz) a:=by
  induction e with
  | n=>intro cells _; exact ⟨cells,rfl,rfl,λ_ _=>rfl,by simp⟩
  | @c i x a ps as hx _ ih=>
    intro cells hl;have hv:=hx.val hf;have hlen:=R.len _ _ _ hv.rel;simp only [List.length_cons] at hl;have hin:i*R.sz+(fr.op x).cells.length<=cells.length:=by
      rw [hl,hlen];have:=Nat.mul_le_mul_right R.sz (show i+1<=i+(as.length+1) by omega);rw [Nat.add_mul] at this; omega
    have hdef:(fr.op x).defd=Od:=by
      have:=R.ones _ _ _ hv.rel;cases hq:fr.op x<;>rw [hq] at this<;>simp_all [zb.defd,zb.cells,zb.one]
    obtain ⟨c',h1,h2,h3,h4⟩:=ih (splice cells (i*R.sz) (fr.op x).cells) (by rw [zdG hin,hl]; congr 1; omega);refine ⟨c', ?_,by rw [h2,zdG hin],λj hj=>?_,λj a' hj=>?_⟩
    · simp only [zdq,List.map,afill];rw [if_pos ⟨hdef,hlen,hin⟩];exact h1
    · rw [h3 j J,zhf hin];have:=znQ (m:=R.sz) (show i≠j by omega);have:=Nat.mul_le_mul_right R.sz (show j+1<=i from hj);rw [Nat.add_mul] at this;omega
    · cases j with
      | zero=>
        simp at hj; subst hj;rw [Nat.add_zero,h3 i J,zks (n:=R.sz) (k:=0) J (Nat.add_zero _).symm J];have:((cells.drop (i*R.sz)).take R.sz).drop (0+(fr.op x).cells.length)=[]:=List.drop_eq_nil_of_le (by rw [List.length_take]; omega);rw [this];simpa using hv.rel
      | succ j=>
        have:=h4 j a' (by simpa using hj);rw [show i+(j+1)=i+1+j by omega]; exact this
theorem zzB {A:Type} {R:Rep A} {bytes:Nat} {st et:TypeId} {n:Nat} {parts:Array (Nat×Operand)} {as:List A} (hsl:Sl T st et R) (hty:Ty T et R bytes) (he:Elts M R 0 parts.toList as) (hn:as.length=n) (hb:n*R.sz<=2 ^ 24) (hf:ziM z M fr) :
 ∃ cells,aop T fr.op h (.buildSlice st n parts)=Ob (.val (.slice h.next 0 n R.sz (Ob n)) (h.push (.arr cells Oc)))/\cells.length=n*R.sz/\∀ i x,as[i]?=Ob x->R.rel z ((cells.drop (i*R.sz)).take R.sz) x:=by
 obtain ⟨zv,h1,h2⟩:=hty.zero;obtain ⟨cells,h3,h4,_,h5⟩:=zkt he hf hty.pos (copies n zv.cells) (by rw [zeR,h2,← hn]; simp);refine ⟨cells, ?_,by rw [h4,zeR,h2],λi x hx=>by simpa using h5 i x hx⟩;simp only [aop,zd8,hsl.und,hsl.sz,Option.getD_some,zdb,h1];rw [if_neg J,if_neg (by have:=hty.pos; omega),if_pos h2,h3];rfl
theorem zCd {A:Type} {R:Rep A} {bytes:Nat} {st et:TypeId} {n:Nat} {parts:Array (Nat×Operand)} {as:List A} (hsl:Sl T st et R) (hty:Ty T et R bytes) (hw:Want ops M Od o.guard) (ho:o.op=.buildSlice st n parts) (hd:o.dst=Ob t) (he:Elts M R 0 parts.toList as) (hn:as.length=n) (hb:n*R.sz<=2 ^ 24)
 (r:zr C T d ops rest ((t,.val (ze R) as)::M) L Q):zr C T d ops (o::rest) M L Q:=by
 refine zzA (nf (by rw [ho]; rfl)) (λ_ _ _ _=>nfo (by rw [ho]; rfl)) hw hd (λz fr h s=>?_) r;obtain ⟨cells,h1,h2,h3⟩:=zzB (h:=h) hsl hty he hn hb s.fr;refine ⟨_,_,z.add h.next (.arr cells Oc),by rw [ho]; exact h1,zjA s.next_none,s.push _, ?_⟩;simp only [TE.ok];refine zbo ⟨?_,.inr (.inr ⟨h.next,0,_,cells,Oc,by rw [hn],ziw,by rw [hn]; omega,λc hc=>by cases hc; omega,λi x hx=>?_⟩)⟩
 . have:=Nat.mul_le_mul_left as.length hty.pos;rw [hn] at this ⊢;simp only [maxLen]; omega
 . rw [Nat.zero_add]; exact R.mono _ _ _ _ (zjA s.next_none) (h3 i x hx)
theorem zzC {A:Type} {R:Rep A} {bytes:Nat} {st et:TypeId} {n:Nat} {parts:Array (Nat×Operand)} {as:List A} (hsl:Sl T st et R) (hty:Ty T et R bytes) (hw:Want ops M Od o.guard) (ho:o.op=.buildSlice st n parts) (hd:o.dst=Ob t) (he:Elts M R 0 parts.toList as) (hn:as.length=n) (hb:n*R.sz<=2 ^ 24)
 (r:∀ v,zr C T d ops rest ((t,.raw v)::M) ((v,.row R as)::L) Q):zr C T d ops (o::rest) M L Q:=by
 refine znP (e:=λv=>.raw v) (L':=λv=>(v,.row R as)::L) (nf (by rw [ho]; rfl)) (λ_ _ _ _=>nfo (by rw [ho]; rfl)) hw hd (λz fr h s=>?_) r;obtain ⟨cells,h1,h2,h3⟩:=zzB (h:=h) hsl hty he hn hb s.fr;refine ⟨_,_,.slice h.next 0 n R.sz (Ob n),by rw [ho]; exact h1,s.pushOwn _ rfl ?_,by simp only [TE.ok]⟩;simp only [Obj.ok];refine ⟨?_,.inr ⟨h.next,0,_,cells,by rw [hn],by rw [za.get_push,if_pos rfl],by rw [hn]; omega,λc hc=>by cases hc; omega,λi x hx=>?_⟩⟩
 . have:=Nat.mul_le_mul_left as.length hty.pos;rw [hn] at this ⊢;simp only [maxLen]; omega
 . rw [Nat.zero_add]; exact h3 i x hx
def mkO {A:Type} (bytes:Nat) (n:Int) (x:A):Option (List A):=if 0<=n/\(bytes:Int)*n<=2 ^ 47/\n<=2 ^ 62 then Ob (List.replicate n.toNat x) else Oe
theorem zCe {A:Type} {R:Rep A} {bytes:Nat} {st et:TypeId} {x:A} {l c:Operand} {n:Int} {xs:List A} (hsl:Sl T st et R) (hty:Ty T et R bytes) (hz:Zr T et R x) (hm:mkO bytes n x=Ob xs) (hw:Want ops M Od o.guard) (ho:o.op=.makeSlice st l c) (hd:o.dst=Ob t) (hl:Opd M l (.val (zi .i64) n)) (hc:Opd M c (.val (zi .i64) n))
 (r:∀ v,zr C T d ops rest ((t,.raw v)::M) ((v,.row R xs)::L) Q):zr C T d ops (o::rest) M L Q:=by
 unfold mkO at hm;split at hm
 case isFalse=>cases hm
 cases hm;rename_i hcond;refine znP (e:=λv=>.raw v) (L':=λv=>(v,.row R _)::L) (nf (by rw [ho]; rfl)) (λ_ _ _ _=>nfo (by rw [ho]; rfl)) hw hd (λz fr h s=>?_) r;obtain ⟨i,h1,h2,h3⟩:=hty.info;obtain ⟨zv,h4,h5⟩:=hz.zero;have h5:=h5 z;have hlen:=R.len _ _ _ h5.rel;refine ⟨.slice h.next 0 n.toNat R.sz (Ob n.toNat),h.push (.arr (copies n.toNat zv.cells) Oc),.slice h.next 0 n.toNat R.sz (Ob n.toNat), ?_,s.pushOwn _ rfl ?_,by simp only [TE.ok]⟩
 . rw [ho];simp only [aop,hl.int s.fr,hc.int s.fr,zeK,hsl.und,h1,h2];rw [if_pos ⟨hcond.1,Int.le_refl _,by simpa using hcond.2⟩];simp only [zdb,hsl.sz,h4];rw [if_neg (by have:=hty.pos; omega),if_pos hlen];rfl
 . simp only [Obj.ok];have hcl:(copies n.toNat zv.cells).length=n.toNat*R.sz:=by rw [zeR,hlen]
   refine ⟨by rw [List.length_replicate]; simp only [maxLen]; omega,.inr ⟨h.next,0,_,copies n.toNat zv.cells,by rw [List.length_replicate],by rw [za.get_push,if_pos rfl],by rw [List.length_replicate]; omega,λc hc=>by cases hc; rw [List.length_replicate]; omega,λi x' hx=>?_⟩⟩;have hi:=(List.getElem?_eq_some_iff.1 hx).1;rw [List.length_replicate] at hi;rw [List.getElem?_replicate,if_pos hi] at hx;cases hx;rw [Nat.zero_add,← hlen,zhg _ hi];exact h5.rel
def zde {A:Type} (bytes:Nat) (xs ys:List A):Option (List A):=if (xs.length+ys.length)*bytes<=2 ^ 46/\xs.length+ys.length<=2 ^ 62 then Ob (xs++ys) else Oe
theorem zuM {A:Type} {R:Rep A} {v:zb} {ys:List A} (hr:zgO R z v ys) (hsub:z.Sub h):lenOf v=ys.length/\∃ news,arow R.sz ys.length v h=Ob news/\news.length=ys.length*R.sz/\news.all zb.one=Od/\∀ i y,ys[i]?=Ob y->R.rel z ((news.drop (i*R.sz)).take R.sz) y:=by
 rcases hr.2 with ⟨rfl,rfl⟩ | ⟨b,off,cap,rfl,rfl,hg⟩ | ⟨b,off,cap,cells,ro,rfl,hg,hl,hcap,hx⟩
 . exact ⟨rfl,[],rfl,by simp,rfl,by simp⟩
 . exact ⟨rfl,[],by simp only [arow]; rfl,by simp,rfl,by simp⟩
 . refine ⟨rfl,(cells.drop off).take (ys.length*R.sz), ?_,by simp; omega, ?_,λi y hy=>?_⟩
   . simp only [arow,(hsub _ _ hg).1];by_cases h0:ys.length=0
     . rw [if_pos h0,if_pos trivial,h0]; simp
     . rw [if_neg h0,if_pos (by exact ⟨by trivial,Nat.le_refl _⟩),if_pos hl]
   . refine List.all_eq_true.2 λc hc=>?_;obtain ⟨j,hj,rfl⟩:=List.getElem_of_mem hc;simp only [List.length_take,List.length_drop] at hj;have hsz:0<R.sz:=by
      rcases Nat.eq_zero_or_pos R.sz with q | q
      . rw [q] at hj; omega
      . exact q
     have hi:j/R.sz<ys.length:=by rw [Nat.div_lt_iff_lt_mul hsz]; omega
     have h1:=R.ones _ _ _ (hx _ _ (List.getElem?_eq_getElem hi));rw [List.all_eq_true] at h1;refine h1 _ (List.mem_of_getElem? (i:=j%R.sz) ?_);have hm:=Nat.mod_lt j hsz;have e:=Nat.div_add_mod j R.sz;rw [Nat.mul_comm] at e;rw [List.getElem?_take,if_pos hm,List.getElem?_drop,Nat.add_assoc,e];simp
   . have h1:=hx i y hy;have h2:=zeu (off:=0) (i:=i) (R:=R) (cells:=(cells.drop off).take (ys.length*R.sz)) Oj hy;rw [List.drop_take,List.take_take,List.drop_drop,Nat.min_eq_left]
     . exact h1
     . simp at h2; omega
theorem zsk {l m:List zb} {p n:Nat} (h:p+n<=l.length):((l++m).drop p).take n=(l.drop p).take n:=by
 apply List.ext_getElem?;intro i;simp only [List.getElem?_take,List.getElem?_drop,List.getElem?_append];repeat' split
 all_goals (first | rfl | omega)
theorem zq3 {l m:List zb} {p n:Nat} (h:l.length<=p):((l++m).drop p).take n=(m.drop (p-l.length)).take n:=by
 apply List.ext_getElem?;intro i;simp only [List.getElem?_take,List.getElem?_drop,List.getElem?_append];repeat' split
 all_goals (first | rfl | omega | (congr 1; omega))
theorem zuN {A:Type} {R:Rep A} {xs ys:List A} {old news:List zb} (ho:old.length=xs.length*R.sz) (hn:news.length=ys.length*R.sz) (h1:∀ (i:Nat) (x:A),xs[i]?=Ob x->R.rel z ((old.drop (i*R.sz)).take R.sz) x) (h2:∀ (i:Nat) (y:A),ys[i]?=Ob y->R.rel z ((news.drop (i*R.sz)).take R.sz) y) :
 ∀ (i:Nat) (x:A),(xs++ys)[i]?=Ob x->R.rel z (((old++news).drop (i*R.sz)).take R.sz) x:=by
 intro i x hi;rw [List.getElem?_append] at hi;split at hi
 . rename_i q;rw [zsk]
   . exact h1 i x hi
   . rw [ho]; have:=Nat.mul_le_mul_right R.sz (show i+1<=xs.length from q); rw [Nat.add_mul] at this; omega
 . rename_i q;have hq:xs.length*R.sz<=i*R.sz:=Nat.mul_le_mul_right _ J;rw [zq3 J,ho,← Nat.sub_mul];exact h2 _ x hi
def zgT (d:Option (List Nat)) (M:Env) (L:Own) (k:Nat):Prop:=∀ ol,d=Ob ol->∀ r∈zcT ol,(∃ b o j p,look M r=Ob (.raw (.ptr b o))/\L[j]?=Ob p/\b∈zfl p/\j≠k)\/∃ (A:Type) (R:Rep A) (x:A),look M r=Ob (.val (zaO R) x)
theorem zA3 {k:Nat}:zgT Oe M L k:=λ_ h=>(nomatch h)
theorem zA4 {ol:List Nat} {k:Nat} (h:zcT ol=[]):zgT (Ob ol) M L k:=λ_ e r hr=>by
 cases e; rw [h] at hr; cases hr
inductive zq4 (M:Env) (L:Own) (k:Nat):List Nat->Prop where
 | n:zq4 M L k []
 | o {r b o:Nat} {es:List TE} {rs:List Nat} (j:Nat) (hl:look M r=Ob (.raw (.ptr b o))) (hj:L[j]?=Ob (.ptr b 0,.box es)) (hne:j≠k) (t:zq4 M L k rs):zq4 M L k (r::rs)
 | q {A:Type} {R:Rep A} {x:A} {r:Nat} {rs:List Nat} (hl:look M r=Ob (.val (zaO R) x)) (t:zq4 M L k rs):zq4 M L k (r::rs)
theorem roffs {ol rs:List Nat} {k:Nat} (h:zcT ol=rs) (ha:zq4 M L k rs):zgT (Ob ol) M L k:=λ_ e r hr=>by
 cases e;rw [h] at hr;clear h;induction ha with
 | n=>cases hr
 | @o r0 b o es rs j hl hj hne t ih=>
  rcases List.mem_cons.1 hr with rfl | hr
  . exact .inl ⟨b,o,j,_,hl,hj,by simp [zfl,zhy],hne⟩
  . exact ih hr
 | @q A R x r0 rs hl t ih=>
  rcases List.mem_cons.1 hr with rfl | hr
  . exact .inr ⟨A,R,x,hl⟩
  . exact ih hr
theorem ROO {p:Prop} (h:p:=by first | exact zA3 | exact zA4 rfl):p:=h
theorem zzD {A:Type} {R:Rep A} {x y:Operand} {c:Call} {v:zb} {xs:List A} {k:Nat} (hx:Opd M x (.raw v)) (hk:L[k]?=Ob (v,.row R xs)) (ho:o.op=.call c) (hc:c.callee=.builtin .append) (ha:c.args.toList=[x,y]) (hra:zgT d M L k):zzu C d M L o:=λ_ ol hd r hr z fr h s u hu hw=>by
 rw [show foot fr.op o=⟨((c.args.toList.map fr.op).drop 1).flatMap zN,Oc,((c.args.toList.map fr.op).take 1).flatMap zN,Oc⟩ by unfold foot; rw [ho]; simp only [hc]] at hw;simp only [ha,List.map,List.take_succ_cons,List.take_zero,List.flatMap_cons,List.flatMap_nil,List.append_nil,hx.raw s.fr] at hw;rcases hra ol hd r hr with ⟨b,o',j,p,h1,h2,h3,h4⟩ | ⟨A',R',y',h1⟩
 . have e:=s.fr _ _ h1;simp only [TE.ok] at e;rw [e] at hu;simp only [zN,List.mem_singleton] at hu;subst hu;refine h4 (zdE s.own.nodup h2 hk h3 ?_);cases v<;>simp_all [zfl,zhy,zN]
 . have e:=s.fr _ _ h1;simp only [TE.ok] at e;obtain ⟨b',off,cells,ro,q1,q2,_⟩:=zir e;rw [q1] at hu;simp only [zN,List.mem_singleton] at hu;subst hu;have hbe:u∈zfl (v,Obj.row R xs):=by cases v<;>simp_all [zfl,zhy,zN]
   rw [(s.own.out _ (List.mem_of_getElem? hk) _ hbe).1] at q2;cases q2
theorem zo3 {A:Type} {R:Rep A} {bytes:Nat} {x y:Operand} {c:Call} {st et:TypeId} {v:zb} {xs ys zs:List A} (k:Nat) (hsl:Sl T st et R) (hty:Ty T et R bytes) (hap:zde bytes xs ys=Ob zs) (hw:Want ops M Od o.guard) (ho:o.op=.call c) (hd:o.dst=Ob t) (hc:c.callee=.builtin .append) (ha:c.args.toList=[x,y]) (hat:c.argTypes.toList=[st,st])
    (hx:Opd M x (.raw v)) (hk:L[k]?=Ob (v,.row R xs)) (hy:Opd M y (.val (ze R) ys)) {L':Own} (hL:zcW L k=Ob L') (r:∀ v',zr C T d ops rest ((t,.raw v')::M) ((v',.row R zs)::L') Q) (hra:zgT d M L k:=by exact ROO):zr C T d ops (o::rest) M L Q:=by
  unfold zde at hap;split at hap
  case isFalse=>cases hap
  cases hap;rename_i hcond;obtain ⟨hcb,hcl⟩:=hcond;refine znP (e:=λv'=>.raw v') (L':=λv'=>(v',.row R (xs++ys))::L') (.w (by rw [ho]; simp only [zdk,hc]) (λt a q=>by rw [ho] at q; cases q) (by rw [ho]; simp only [zo0,hc]) (zzD hx hk ho hc ha hra)) (λz fr h s=>by
    rw [show foot fr.op o=⟨((c.args.toList.map fr.op).drop 1).flatMap zN,Oc,((c.args.toList.map fr.op).take 1).flatMap zN,Oc⟩ by unfold foot; rw [ho]; simp only [hc]];simp only [ha,List.map,List.drop_succ_cons,List.drop_zero,List.take_succ_cons,List.take_zero,List.flatMap_cons,List.flatMap_nil,List.append_nil,hx.raw s.fr];exact ⟨zAF s.sub (zgR (hy.val s.fr)),zet s hk rfl⟩) hw hd (λz fr h s=>?_) r
  have hr:=s.own.ok _ (List.mem_of_getElem? hk);simp only [Obj.ok] at hr;obtain ⟨hl0,news,hrow,hnl,hone,hnews⟩:=zuM (zgR (hy.val s.fr)) s.sub;obtain ⟨i,h1,h2,h3⟩:=hty.info;obtain ⟨zv,h4,h5⟩:=hty.zero;have hpos:=hty.pos;have hml:(xs++ys).length<=maxLen:=by rw [List.length_append]; simp only [maxLen]; omega
  have sd:=s.drop hL;have frame:∀ w h',aappend T c.argTypes v (fr.op y) h=Ob (w,h')->aop T fr.op h o.op=Ob (.val w h'):=by
    intro w h' e;rw [ho];simp only [aop,zc4,hc,abuiltin,ha,List.map,hx.raw s.fr,e,zfm,Option.map]
  -- a new block
  have fresh:∀ (h1:za) (s1:StZ C M L' z fr h1) (old:List zb),h1.next=h.next->old.length=xs.length*R.sz->(∀ (i:Nat) (x:A),xs[i]?=Ob x->R.rel z ((old.drop (i*R.sz)).take R.sz) x) ->
      StZ C M ((.slice h.next 0 (xs.length+ys.length) R.sz Oe,.row R (xs++ys))::L') z fr (h1.push (.arr (old++news) Oc)):=by
    intro h1 s1 old e hol hold;rw [← e];refine s1.pushOwn _ rfl ?_;simp only [Obj.ok];refine ⟨hml,.inr ⟨h1.next,0,Oe,old++news,by rw [List.length_append],by rw [za.get_push,if_pos rfl],by rw [List.length_append,List.length_append,hol,hnl,Nat.add_mul]; omega,λc q=>(nomatch q),λi x hi=>?_⟩⟩;rw [Nat.zero_add];exact zuN hol hnl hold hnews i x hi
  rcases hr.2 with ⟨rfl,rfl⟩ | ⟨b,off,cap,cells,rfl,g1,g2,g3,g4⟩
  · by_cases hn0:ys.length=0
    · have:ys=[]:=List.length_eq_zero_iff.1 hn0;subst this;refine ⟨.nsz,h,.nsz,frame _ _ ?_,sd.nilrow R,by simp only [TE.ok]⟩;simp only [aappend,hat,hsl.und,h1,h4,h5,h3,hl0,hrow];simp [Nat.ne_of_gt hpos]
    · refine ⟨.slice h.next 0 (([]:List A).length+ys.length) R.sz Oe,_,.slice h.next 0 (([]:List A).length+ys.length) R.sz Oe,frame _ _ ?_,fresh h sd [] rfl Ol Ol,by simp only [TE.ok]⟩;simp only [aappend,hat,hsl.und,h1,h4,h5,h3,hl0,hrow,h2];have hne:¬ (R.sz=0\/R.sz≠R.sz):=J
      simp only [List.length_nil,Nat.zero_add] at hcb hcl;rw [if_neg (λq=>q rfl),if_neg hne,if_neg hn0,if_pos ⟨hcb,hcl⟩];simp
  · have hne:¬ (R.sz=0\/R.sz≠R.sz):=J
    have hold:∀ (i:Nat) (x:A),xs[i]?=Ob x->R.rel z ((((cells.drop off).take (xs.length*R.sz)).drop (i*R.sz)).take R.sz) x:=by
      intro i x hi;have h6:=zeu (off:=0) (i:=i) (R:=R) (cells:=(cells.drop off).take (xs.length*R.sz)) Oj hi;rw [List.drop_take,List.take_take,List.drop_drop,Nat.min_eq_left]
      · exact g4 i x hi
      · simp at h6; omega
    have hol:((cells.drop off).take (xs.length*R.sz)).length=xs.length*R.sz:=by simp; omega
    have base:∀ w h',(match cap with
                 | some c=>
                   if xs.length+ys.length<=c then
                     (if (Oc=Oc)/\off+(xs.length+ys.length)*R.sz<=cells.length/\news.all zb.one=Od
                      then Ob (zb.slice b off (xs.length+ys.length) R.sz cap,h.set b (.arr (splice cells (off+xs.length*R.sz) news) Oc)) else Oe)
                   else if off+xs.length*R.sz<=cells.length then
                     Ob (zb.slice h.next 0 (xs.length+ys.length) R.sz Oe,h.push (.arr ((cells.drop off).take (xs.length*R.sz)++news) Oc)) else Oe
                 | none=>if (Oc=Oc)/\off+xs.length*R.sz<=cells.length/\news.all zb.one=Od then
                     Ob (zb.slice h.next 0 (xs.length+ys.length) R.sz Oe,(h.set b .dead).push (.arr ((cells.drop off).take (xs.length*R.sz)++news) Oc)) else Oe)=Ob (w,h') ->
        aappend T c.argTypes (.slice b off xs.length R.sz cap) (fr.op y) h=Ob (w,h'):=by
      intro w h' e;simp only [aappend,hat,hsl.und,h1,h4,h5,h3,hl0,hrow,h2,g1];rw [if_neg (λq=>q rfl),if_neg hne,if_pos ⟨trivial,hcb,hcl⟩];cases cap<;>simpa using e
    cases cap with
    | none=>
      refine ⟨.slice h.next 0 (xs.length+ys.length) R.sz Oe,_,.slice h.next 0 (xs.length+ys.length) R.sz Oe,frame _ _ (base _ _ (if_pos ⟨rfl,g2,hone⟩)),fresh (h.set b .dead) ?_ _ rfl hol hold,by simp only [TE.ok]⟩;obtain ⟨o1,o2,o3⟩:=s.own.out _ (List.mem_of_getElem? hk) b (by simp [zfl,zhy]);refine sd.wild o1 o2 o3 ?_ .dead;have hp:=(List.Perm.flatMap_right zfl (zcO hk hL)).nodup_iff.2 s.own.nodup;have hp:(blks ((zb.slice b off xs.length R.sz Oe,Obj.row R xs)::L')).Nodup:=hp;rw [zP] at hp;exact λq=>(List.nodup_append.1 hp).2.2 b (by simp [zfl,zhy]) b q rfl
    | some cc=>
      by_cases hroom:xs.length+ys.length<=cc
      · have hfit:off+(xs.length+ys.length)*R.sz<=cells.length:=by
          have:=(g3 cc rfl).2;have:=Nat.mul_le_mul_right R.sz hroom;omega
        have hin:off+xs.length*R.sz+news.length<=cells.length:=by rw [hnl,Nat.add_assoc,← Nat.add_mul]; exact hfit
        refine ⟨.slice b off (xs.length+ys.length) R.sz (Ob cc),_,.slice b off (xs.length+ys.length) R.sz (Ob cc),frame _ _ (base _ _ ((if_pos hroom).trans (if_pos ⟨rfl,hfit,hone⟩))),(s.front hk hL).upd (k:=0) rfl rfl rfl _ ?_ rfl,by simp only [TE.ok]⟩;simp only [Obj.ok];refine ⟨hml,.inr ⟨b,off,Ob cc,splice cells (off+xs.length*R.sz) news,by rw [List.length_append],by rw [za.get_set,if_pos rfl],by rw [zdG hin,List.length_append]; exact hfit,λc q=>by cases q; rw [zdG hin,List.length_append]; exact ⟨hroom,(g3 _ rfl).2⟩,λi x hi=>?_⟩⟩;rw [List.getElem?_append] at hi;split at hi
        · rename_i q;rw [zhf hin]
          · exact g4 i x hi
          · left; have:=Nat.mul_le_mul_right R.sz (show i+1<=xs.length from q); rw [Nat.add_mul] at this; omega
        · rename_i q;have hy':=(List.getElem?_eq_some_iff.1 hi).1;have e:i*R.sz=xs.length*R.sz+(i-xs.length)*R.sz:=by rw [← Nat.add_mul]; congr 1; omega
          have h7:=hnews _ _ hi;have h8:=zeu (off:=0) (i:=i-xs.length) (R:=R) (cells:=news) J hi;have:((splice cells (off+xs.length*R.sz) news).drop (off+i*R.sz)).take R.sz=(news.drop ((i-xs.length)*R.sz)).take R.sz:=by
            apply List.ext_getElem?;intro j;unfold splice;simp only [List.getElem?_take,List.getElem?_drop,List.getElem?_append,List.length_append,List.length_take];repeat' split
            all_goals (try omega)
            all_goals (first | rfl | (congr 1; omega))
          rw [this]; exact h7
      · refine ⟨.slice h.next 0 (xs.length+ys.length) R.sz Oe,_,.slice h.next 0 (xs.length+ys.length) R.sz Oe,frame _ _ (base _ _ ((if_neg hroom).trans (if_pos g2))),fresh h sd _ rfl hol hold,by simp only [TE.ok]⟩
end
structure Stt (T:Tab) (t:TypeId) (zc:List zb) (places:List (Nat×Nat)):Prop where
 zero:zeJ T t=Ob (.agg zc)
 pl:∃ fs,T.und t=Ob (.struct fs)/\aplaces T fs.toList=Ob places
theorem zint {z:Store}:(zi .i64).rel z [.int .i64 0] 0:=⟨rfl,by decide,by decide⟩
theorem zbool {z:Store}:zaS.rel z [.bool Oc] Oc:=rfl
theorem znil {A:Type} {R:Rep A} {z:Store}:(ze R).rel z [.nsz] []:=⟨_,rfl,zi7⟩
theorem zunit {z:Store}:zcS.rel z [] ():=rfl
theorem zpair {A B:Type} {R:Rep A} {S:Rep B} {z:Store} {c1 c2 cs:List zb} {a:A} {b:B} (h1:R.rel z c1 a) (h2:S.rel z c2 b) (e:c1++c2=cs):(zI R S).rel z cs (a,b):=⟨c1,c2,e.symm,h1,h2⟩
section
variable {C:Ctx} {T:Tab} {d:Option (List Nat)} {ops rest:List Oper} {M:Env} {L:Own} {Q:zg->za->Prop} {P:zaC->zg->za->Prop} {o:Oper} {t:Nat} {z:Store} {fr:zg} {h:za}
inductive Bld (M:Env) (zc:List zb) (places:List (Nat×Nat)):{A:Type}->Rep A->Nat->Nat->List (Nat×Operand)->A->Prop where
 | n {i off:Nat} (e:zc.length=off):Bld M zc places zcS i off [] ()
 | p {A B:Type} {R:Rep A} {S:Rep B} {i off:Nat} {x:Operand} {ps:List (Nat×Operand)} {a:A} {b:B} (hx:Opd M x (.val R a)) (hp:places[i]?=Ob (off,R.sz)) (r:Bld M zc places S (i+1) (off+R.sz) ps b):Bld M zc places (zI R S) i off ((i,x)::ps) (a,b)
 | z {A B:Type} {R:Rep A} {S:Rep B} {i off:Nat} {ps:List (Nat×Operand)} {a:A} {b:B} (hz:∀ z,R.rel z ((zc.drop off).take R.sz) a) (r:Bld M zc places S (i+1) (off+R.sz) ps b):Bld M zc places (zI R S) i off ps (a,b)
theorem zuO {zc:List zb} {places:List (Nat×Nat)} {A:Type} {R:Rep A} {i off:Nat} {ps:List (Nat×Operand)} {a:A} (b:Bld M zc places R i off ps a) (hf:ziM z M fr):off+R.sz=zc.length/\∀ (cells:List zb),cells.length=zc.length->cells.drop off=zc.drop off ->
    ∃ cells',afill (λi=>places[i]?) cells (zdq fr.op ps)=Ob cells'/\cells'.length=zc.length/\cells'.take off=cells.take off/\R.rel z (cells'.drop off) a:=by
  induction b with
  | n e=>exact ⟨e.symm,λcells hl _=>⟨cells,rfl,hl,rfl,List.drop_eq_nil_of_le J⟩⟩
  | @p A B R S i off x ps a b hx hp _ ih=>
    obtain ⟨ih0,ih⟩:=ih;simp only [zI] at *
    refine ⟨by omega,λcells hl hd=>?_⟩;have hv:=hx.val hf;have hlen:=R.len _ _ _ hv.rel;have hin:off+(fr.op x).cells.length<=cells.length:=J
    have hdef:(fr.op x).defd=Od:=by
      cases hq:fr.op x with
      | undef=>
        have h1:=hv.agg;have h2:=R.ones _ _ _ hv.rel;rw [hq] at h2; simp [zb.cells,zb.one] at h2
      | _=>rfl
    have hsl:=zdG hin;obtain ⟨c',h1,h2,h3,h4⟩:=ih (splice cells off (fr.op x).cells) J (by
      have e:(splice cells off (fr.op x).cells).drop (off+R.sz)=cells.drop (off+R.sz):=by
        apply List.ext_getElem?;intro j;unfold splice;simp only [List.getElem?_drop,List.getElem?_append,List.length_append,List.length_take];repeat' split
        all_goals (try omega)
        all_goals (first | rfl | (congr 1; omega))
      rw [e];have:=congrArg (List.drop R.sz) hd;rwa [List.drop_drop,List.drop_drop] at this)
    refine ⟨c', ?_,h2, ?_,(fr.op x).cells,c'.drop (off+R.sz), ?_,hv.rel,h4⟩
    · simp only [zdq,List.map,afill,hp];rw [if_pos ⟨hdef,hlen,hin⟩];exact h1
    · have:=congrArg (List.take off) h3;rw [List.take_take,List.take_take,Nat.min_eq_left J] at this;rw [this];unfold splice;rw [List.append_assoc,List.take_append_of_le_length Oj,List.take_take,Nat.min_self]
    · have e:c'.drop off=(c'.drop off).take R.sz++c'.drop (off+R.sz):=by
        rw [← List.drop_drop]; exact (List.take_append_drop _ _).symm
      rw [e];congr 1;have:=congrArg (List.drop off) h3;rw [List.drop_take,List.drop_take,Nat.add_sub_cancel_left] at this;rw [this,zks (n:=R.sz) (k:=0) J (Nat.add_zero _).symm J];have:((cells.drop off).take R.sz).drop (0+(fr.op x).cells.length)=[]:=List.drop_eq_nil_of_le (by rw [List.length_take]; omega);rw [this]; simp
  | @z A B R S i off ps a b hz _ ih=>
    obtain ⟨ih0,ih⟩:=ih;simp only [zI] at *
    refine ⟨by omega,λcells hl hd=>?_⟩;obtain ⟨c',h1,h2,h3,h4⟩:=ih cells hl (by
      have:=congrArg (List.drop R.sz) hd;rwa [List.drop_drop,List.drop_drop] at this)
    refine ⟨c',h1,h2, ?_,(zc.drop off).take R.sz,c'.drop (off+R.sz), ?_,hz _,h4⟩
    · have:=congrArg (List.take off) h3;rwa [List.take_take,List.take_take,Nat.min_eq_left J] at this
    · have e:c'.drop off=(c'.drop off).take R.sz++c'.drop (off+R.sz):=by
        rw [← List.drop_drop]; exact (List.take_append_drop _ _).symm
      rw [e];congr 1;have:=congrArg (List.drop off) h3;rw [List.drop_take,List.drop_take,Nat.add_sub_cancel_left,hd] at this;exact this
theorem zku {A:Type} {R:Rep A} {zc:List zb} {places:List (Nat×Nat)} {tt:TypeId} {parts:Array (Nat×Operand)} {a:A} (hst:Stt T tt zc places) (hw:Want ops M Od o.guard) (ho:o.op=.build tt parts) (hd:o.dst=Ob t) (hagg:R.agg=Od) (hb:Bld M zc places R 0 0 parts.toList a)
 (r:zr C T d ops rest ((t,.val R a)::M) L Q):zr C T d ops (o::rest) M L Q:=by
 refine zal (by rw [ho]; rfl) hw hd (λz fr h s=>?_) r;obtain ⟨fs,h1,h2⟩:=hst.pl;obtain ⟨h0,hb⟩:=zuO hb s.fr;obtain ⟨c',h3,h4,_,h5⟩:=hb zc rfl rfl;refine ⟨.agg c', ?_,by simp only [TE.ok]; exact ⟨by rw [List.drop_zero] at h5; exact h5,by rw [hagg]; rfl⟩⟩;rw [ho];simp only [aop,abuild,hst.zero,h1,h2,zb.cells,h3,zae,Option.map]
theorem zcd:∀ {es:List TE} {vs:List zb},zG z es vs->vs.length=es.length
 | [],_,h=>by simp only [zG] at h; rw [h]; rfl
 | e::es,_,h=>by
  simp only [zG] at h;obtain ⟨v,vs',rfl,_,h2⟩:=h;simp [zcd h2]
theorem zjT:∀ {es:List TE} {vs:List zb} {i:Nat} {e:TE},zG z es vs->es[i]?=Ob e->∃ v,vs[i]?=Ob v/\e.ok z v
 | [],_,_,_,_,hi=>by simp at hi
 | a::es,_,i,e,h,hi=>by
  simp only [zG] at h;obtain ⟨v,vs',rfl,h1,h2⟩:=h;cases i with
  | zero=>simp at hi; subst hi; exact ⟨v,rfl,h1⟩
  | succ i=>simpa using zjT h2 (by simpa using hi)
theorem zhh:∀ {es:List TE} {vs:List zb} {i:Nat} {e:TE} {v:zb},zG z es vs->e.ok z v->zG z (es.set i e) (vs.set i v)
 | [],_,_,_,_,h,_=>by simp only [zG] at h; subst h; simp [zG]
 | a::es,_,i,e,v,h,hv=>by
  simp only [zG] at h;obtain ⟨u,vs',rfl,h1,h2⟩:=h;cases i with
  | zero=>simp only [List.set_cons_zero,zG]; exact ⟨v,vs',rfl,hv,h2⟩
  | succ i=>simp only [List.set_cons_succ,zG]; exact ⟨u,_,rfl,h1,zhh h2 hv⟩
def Cells {A:Type} (R:Rep A) (a:A) (es:List TE):Prop:=∀ z cs,R.rel z cs a↔zG z es cs
theorem zm {A:Type} {R:Rep A} {a:A} (h:R.agg=Oc):Cells R a [.val R a]:=by
 intro z cs;simp only [zG,TE.ok];have h1:=R.one h;constructor
 . intro hr;have hl:=R.len _ _ _ hr;have ho:=R.ones _ _ _ hr
   match cs,hl with
   | [c],_=>
    simp at ho;refine ⟨c,[],rfl,⟨?_, ?_⟩,rfl⟩
    . have:c.cells=[c]:=by cases c<;>simp_all [zb.cells,zb.one]
      rw [this]; exact hr
    . rw [h]; cases c<;>simp_all [zb.isAgg,zb.one]
   | [],hl=>rw [h1] at hl; simp at hl
   | _::_::_,hl=>rw [h1] at hl; simp at hl
 . rintro ⟨v,vs,rfl,hv,rfl⟩
   have:v.cells=[v]:=by
    have:=hv.agg;rw [h] at this;cases v<;>simp_all [zb.cells,zb.isAgg]
   rw [← this]; exact hv.rel
theorem za1:Cells zcS () []:=by intro z cs; simp [zcS,zG]
theorem ze6:∀ {es fs:List TE} {cs:List zb},zG z (es++fs) cs↔∃ c1 c2,cs=c1++c2/\zG z es c1/\zG z fs c2
 | [],fs,cs=>by
  simp only [List.nil_append,zG];constructor
  . intro h; exact ⟨[],cs,rfl,rfl,h⟩
  . rintro ⟨c1,c2,rfl,rfl,h⟩; exact h
 | e::es,fs,cs=>by
  simp only [List.cons_append,zG];constructor
  . rintro ⟨v,vs,rfl,h1,h2⟩
    obtain ⟨c1,c2,rfl,h3,h4⟩:=ze6.1 h2;exact ⟨v::c1,c2,rfl,⟨v,c1,rfl,h1,h3⟩,h4⟩
  . rintro ⟨c1,c2,rfl,⟨v,vs,rfl,h1,h2⟩,h3⟩
    exact ⟨v,vs++c2,rfl,h1,ze6.2 ⟨vs,c2,rfl,h2,h3⟩⟩
theorem zj {A B:Type} {R:Rep A} {S:Rep B} {a:A} {b:B} {es fs gs:List TE} (h1:Cells R a es) (h2:Cells S b fs) (e:es++fs=gs):Cells (zI R S) (a,b) gs:=by
 subst e;intro z cs;rw [ze6];constructor
 . rintro ⟨c1,c2,rfl,h3,h4⟩; exact ⟨c1,c2,rfl,(h1 _ _).1 h3,(h2 _ _).1 h4⟩
 . rintro ⟨c1,c2,rfl,h3,h4⟩; exact ⟨c1,c2,rfl,(h1 _ _).2 h3,(h2 _ _).2 h4⟩
theorem zxb {et:TypeId} {zv:zb} {es:List TE} (hz:zeJ T et=Ob zv) (hes:∀ z,zG z es zv.cells) (h1:zv.cells.all zb.one=Od) (hw:Want ops M Od o.guard) (ho:o.op=.alloc et) (hd:o.dst=Ob t)
 (r:∀ b,zr C T d ops rest ((t,.raw (.ptr b 0))::M) ((.ptr b 0,.box es)::L) Q):zr C T d ops (o::rest) M L Q:=by
 refine zgc hw (nf (by rw [ho]; rfl)) λz fr h s=>?_;have ha:aop T fr.op h o.op=Ob (.val (.ptr h.next 0) (h.push (.arr zv.cells Oc))):=by rw [ho]; simp only [aop,zgg,hz]
 refine ⟨_,_,z,_,_,ha,nfo (by rw [ho]; rfl),.refl _, ?_,r h.next⟩;rw [hd,zbl];refine (s.pushOwn (v:=.ptr h.next 0) (ob:=.box es) _ rfl ?_).set (by simp only [TE.ok]);exact ⟨h.next,zv.cells,rfl,by rw [za.get_push,if_pos rfl],hes z,h1⟩
theorem zzE {A:Type} {R:Rep A} {et:TypeId} {x:Operand} {a:A} {es:List TE} (hc:Cells R a es) (hw:Want ops M Od o.guard) (ho:o.op=.box et x) (hd:o.dst=Ob t) (hx:Opd M x (.val R a))
 (r:∀ b,zr C T d ops rest ((t,.raw (.ptr b 0))::M) ((.ptr b 0,.box es)::L) Q):zr C T d ops (o::rest) M L Q:=by
 refine zgc hw (nf (by rw [ho]; rfl)) λz fr h s=>?_;have hv:=hx.val s.fr;have h1:=R.ones _ _ _ hv.rel;have ha:aop T fr.op h o.op=Ob (.val (.ptr h.next 0) (h.push (.arr (fr.op x).cells Oc))):=by
  rw [ho];simp only [aop,zj7];split
  . rename_i q; rw [q] at h1; simp [zb.cells,zb.one] at h1
  . rfl
 refine ⟨_,_,z,_,_,ha,nfo (by rw [ho]; rfl),.refl _, ?_,r h.next⟩;rw [hd,zbl];refine (s.pushOwn (v:=.ptr h.next 0) (ob:=.box es) _ rfl ?_).set (by simp only [TE.ok]);exact ⟨h.next,_,rfl,by rw [za.get_push,if_pos rfl],(hc _ _).1 hv.rel,h1⟩
theorem zA5 {A:Type} {R:Rep A} {et:TypeId} {x:Operand} {a:A} (hw:Want ops M Od o.guard) (ho:o.op=.box et x) (hd:o.dst=Ob t) (hx:Opd M x (.val R a))
 (r:zr C T d ops rest ((t,.val (zaO R) a)::M) L Q):zr C T d ops (o::rest) M L Q:=by
 refine zzA (nf (by rw [ho]; rfl)) (λ_ _ _ _=>nfo (by rw [ho]; rfl)) hw hd (λz fr h s=>?_) r;have hv:=hx.val s.fr;have h1:=R.ones _ _ _ hv.rel;refine ⟨.ptr h.next 0,h.push (.arr (fr.op x).cells Oc),z.add h.next (.arr (fr.op x).cells Oc), ?_,zjA s.next_none,s.push _, ?_⟩
 . rw [ho];simp only [aop,zj7];split
   . rename_i q; rw [q] at h1; simp [zb.cells,zb.one] at h1
   . rfl
 . simp only [TE.ok];have hl:=R.len _ _ _ hv.rel;refine zfT ⟨h.next,0,_,Oc,rfl,ziw,by omega, ?_⟩;rw [List.drop_zero,← hl,List.take_length];exact R.mono _ _ _ _ (zjA s.next_none) hv.rel
theorem zdH {A:Type} {R:Rep A} {a:A} {es:List TE} {b:Nat} (k:Nat) (ts:List Nat) (hc:Cells R a es) {L':Own} (hk:L[k]?=Ob (.ptr b 0,.box es)) (hL:zcW L k=Ob L') (hts:zjB M (.ptr b 0) ts):∀ z fr h,StZ C M L z fr h->∃ z',z.le z'/\StZ C (zgS ts (.val (zaO R) a) M) L' z' fr h:=by
 intro z fr h s;have ho:=s.own.ok _ (List.mem_of_getElem? hk);simp only [Obj.ok] at ho;obtain ⟨b',cells,q,h2,h3,h4⟩:=ho;cases q;obtain ⟨o1,o2,o3⟩:=s.own.out _ (List.mem_of_getElem? hk) b (by simp [zfl,zhy]);have hle:z.le (z.add b (.arr cells Oc)):=zjA o1;have s':=s.drop hL;have hne:∀ p∈L',∀ c,c∈zfl p->c≠b:=by
  intro p hp c hc e;subst e;have hp':=(List.Perm.flatMap_right zfl (zcO hk hL)).nodup_iff.2 s.own.nodup;have hp':(blks ((zb.ptr c 0,Obj.box es)::L')).Nodup:=hp';rw [zP] at hp';exact (List.nodup_append.1 hp').2.2 c (by simp [zfl,zhy]) c (zbF.2 ⟨p,hp,hc⟩) rfl
 have hr:=(hc z cells).2 h3;refine ⟨z.add b (.arr cells Oc),hle,{ zle:=s.zle.trans hle,sub:=?_,old:=?_,fr:=zfH ?_ hts (s.fr.mono hle),own:=⟨λp hp=>Obj.ok_mono hle (λ_ _=>rfl) (s'.own.ok p hp),λp hp c hc=>?_,s'.own.nodup⟩,chg:=s.chg }⟩
 . intro c y hc;by_cases e:c=b
   . subst e; rw [ziw] at hc; cases hc; exact ⟨h2,o2⟩
   . rw [add_ne e] at hc; exact s.sub c y hc
 . intro c hc hB;rw [add_ne]
   . exact s.old c hc hB
   . intro e; subst e;rcases o3 with q | q
     . omega
     . exact hB q
 . simp only [TE.ok];have hl:=R.len _ _ _ hr;refine zfT ⟨b,0,cells,Oc,rfl,ziw,by omega, ?_⟩;rw [List.drop_zero,← hl,List.take_length];exact R.mono _ _ _ _ hle hr
 . obtain ⟨q1,q2,q3⟩:=s'.own.out p hp c hc;exact ⟨by rw [add_ne (hne p hp c hc)]; exact q1,q2,q3⟩
theorem zxc {et:TypeId} {x:Operand} {b q:Nat} {es:List TE} {e:TE} (k:Nat) (hls:Listed d ops rest) (hag:zea T et=Ob Oc) (he:es[q]?=Ob e) (hw:Want ops M Od o.guard) (ho:o.op=.load et x) (hd:o.dst=Ob t) (hx:Opd M x (.raw (.ptr b q))) (hk:L[k]?=Ob (.ptr b 0,.box es))
 (r:zr C T d ops rest ((t,e)::M) L Q):zr C T d ops (o::rest) M L Q:=by
 refine zgh (.l hls (by rw [ho]; rfl) (by rw [ho]; rfl)) (λz fr h s=>by
  rw [show foot fr.op o=⟨zN (fr.op x),Oc,[],Oc⟩ by unfold foot; rw [ho]];exact ⟨λb' hb=>zit s hk rfl b' (by simpa [zN,hx.raw s.fr] using hb),λb hb=>(nomatch hb)⟩) hw hd (λz fr h s=>?_) r
 have hob:=s.own.ok _ (List.mem_of_getElem? hk);simp only [Obj.ok] at hob;obtain ⟨b',cells,q',h2,h3,h4⟩:=hob;cases q';obtain ⟨v,h5,h6⟩:=zjT h3 he;refine ⟨v, ?_,h6⟩;rw [ho];simp only [aop,hx.raw s.fr,aload,h2,Go.Ai.apart,hag,h5,zae,Option.map]
theorem zuP {A:Type} {R:Rep A} {a:A} {et:TypeId} {x:Operand} {b:Nat} {es:List TE} (k:Nat) (hls:Listed d ops rest) (hu:Und T et R) (hc:Cells R a es) (hw:Want ops M Od o.guard) (ho:o.op=.load et x) (hd:o.dst=Ob t) (hx:Opd M x (.raw (.ptr b 0))) (hk:L[k]?=Ob (.ptr b 0,.box es))
 (r:zr C T d ops rest ((t,.val R a)::M) L Q):zr C T d ops (o::rest) M L Q:=by
 refine zgh (.l hls (by rw [ho]; rfl) (by rw [ho]; rfl)) (λz fr h s=>by
  rw [show foot fr.op o=⟨zN (fr.op x),Oc,[],Oc⟩ by unfold foot; rw [ho]];exact ⟨λb' hb=>zit s hk rfl b' (by simpa [zN,hx.raw s.fr] using hb),λb hb=>(nomatch hb)⟩) hw hd (λz fr h s=>?_) r
 have hob:=s.own.ok _ (List.mem_of_getElem? hk);simp only [Obj.ok] at hob;obtain ⟨b',cells,q',h2,h3,h4⟩:=hob;cases q';have hr:=(hc z cells).2 h3;have hl:=R.len _ _ _ hr;obtain ⟨v,h5,h6⟩:=zgd (off:=0) (cells:=cells) hu.sz hu.agg J (by rw [List.drop_zero,← hl,List.take_length]; exact hr);refine ⟨v, ?_,by simp only [TE.ok]; exact h6⟩;rw [ho];simp only [aop,hx.raw s.fr,aload,h2,h5,zae,Option.map]
theorem zlL {cells:List zb} {q:Nat} {v:zb} (h:q<cells.length):splice cells q [v]=cells.set q v:=by
 apply List.ext_getElem?;intro i;unfold splice;rw [List.append_assoc,List.getElem?_append,List.getElem?_set,List.length_take,Nat.min_eq_left J];by_cases h1:i<q
 . rw [if_pos h1,if_neg J,List.getElem?_take,if_pos h1]
 . rw [if_neg h1];by_cases h2:q=i
   . subst h2; rw [if_pos rfl,if_pos h]; simp
   . rw [if_neg h2,List.getElem?_append_right Oj,List.getElem?_drop];congr 1; simp; omega
theorem zpX {A:Type} {R:Rep A} {a:A} {et:TypeId} {x y:Operand} {b q:Nat} {es:List TE} (k:Nat) (hsz:szT T et=Ob 1) (hk:L[k]?=Ob (.ptr b 0,.box es)) (hq:q<es.length) (hw:Want ops M Od o.guard) (ho:o.op=.store et x y) (hd:o.dst=Oe) (hx:Opd M x (.raw (.ptr b q))) (hy:Opd M y (.val R a)) (hR:R.agg=Oc)
 {L':Own} (hL:zeQ L k (.ptr b 0,.box (es.set q (.val R a)))=Ob L') (r:zr C T d ops rest M L' Q):zr C T d ops (o::rest) M L Q:=by
 refine ziy (.w (by rw [ho]; rfl) (λt a q=>by rw [ho] at q; cases q) (by rw [ho]; rfl) (λq=>by rw [ho] at q; cases q)) (λz fr h s=>by
  rw [show foot fr.op o=⟨[],Oc,zN (fr.op x),Oc⟩ by unfold foot; rw [ho]];exact ⟨λb hb=>(nomatch hb),λb' hb=>zet s hk rfl b' (by simpa [zN,hx.raw s.fr] using hb)⟩) hw hd (λz fr h s=>?_) r
 have hob:=s.own.ok _ (List.mem_of_getElem? hk);simp only [Obj.ok] at hob;obtain ⟨b',cells,q',h2,h3,h4⟩:=hob;cases q';have hv:=hy.val s.fr;have h1:=R.one hR;have hcs:(fr.op y).cells=[fr.op y]:=by
  have:=hv.agg;rw [hR] at this;cases e:fr.op y<;>rw [e] at this<;>simp_all [zb.cells,zb.isAgg]
 have hon:=R.ones _ _ _ hv.rel;rw [hcs] at hon;have hlt:q<cells.length:=by rw [zcd h3]; exact hq
 refine ⟨.tuple [],h.set b (.arr (cells.set q (fr.op y)) Oc), ?_,s.upd hk rfl rfl _ ?_ hL⟩
 . rw [ho];simp only [aop,hx.raw s.fr,astore,h2,hsz,hcs,List.length_singleton];rw [if_pos (by exact ⟨by trivial,by omega,hon⟩),zlL hlt];rfl
 . refine ⟨b,_,rfl,by rw [za.get_set,if_pos rfl],zhh h3 (by simp only [TE.ok]; exact hv), ?_⟩;rw [List.all_eq_true] at h4 ⊢;intro c hc;rcases List.mem_or_eq_of_mem_set hc with q | rfl
   . exact h4 c q
   . simpa using hon
theorem zsl {A:Type} {R:Rep A} {a:A} {et:TypeId} {x y:Operand} {b:Nat} {es es':List TE} (k:Nat) (hu:Und T et R) (hk:L[k]?=Ob (.ptr b 0,.box es)) (hc:Cells R a es') (hl:es'.length=es.length) (hw:Want ops M Od o.guard) (ho:o.op=.store et x y) (hd:o.dst=Oe) (hx:Opd M x (.raw (.ptr b 0))) (hy:Opd M y (.val R a))
 {L':Own} (hL:zeQ L k (.ptr b 0,.box es')=Ob L') (r:zr C T d ops rest M L' Q):zr C T d ops (o::rest) M L Q:=by
 refine ziy (.w (by rw [ho]; rfl) (λt a q=>by rw [ho] at q; cases q) (by rw [ho]; rfl) (λq=>by rw [ho] at q; cases q)) (λz fr h s=>by
  rw [show foot fr.op o=⟨[],Oc,zN (fr.op x),Oc⟩ by unfold foot; rw [ho]];exact ⟨λb hb=>(nomatch hb),λb' hb=>zet s hk rfl b' (by simpa [zN,hx.raw s.fr] using hb)⟩) hw hd (λz fr h s=>?_) r
 have hob:=s.own.ok _ (List.mem_of_getElem? hk);simp only [Obj.ok] at hob;obtain ⟨b',cells,q',h2,h3,h4⟩:=hob;cases q';have hv:=hy.val s.fr;have hlen:=R.len _ _ _ hv.rel;have hok:=(hc _ _).1 hv.rel;have hle:=zcd hok;have hlc:=zcd h3;have e:splice cells 0 (fr.op y).cells=(fr.op y).cells:=by
  unfold splice;rw [List.take_zero,Nat.zero_add,List.drop_eq_nil_of_le J]; simp
 refine ⟨.tuple [],h.set b (.arr (fr.op y).cells Oc), ?_,s.upd hk rfl rfl _ ?_ hL⟩
 . rw [ho];simp only [aop,hx.raw s.fr,astore,h2,hu.sz];rw [if_pos ⟨hlen,by omega,R.ones _ _ _ hv.rel⟩,e];rfl
 . exact ⟨b,_,rfl,by rw [za.get_set,if_pos rfl],hok,R.ones _ _ _ hv.rel⟩
theorem zh0 {z:Store}:∀ {es:List TE} {vs:List zb} {off n:Nat},zG z es vs->zG z ((es.drop off).take n) ((vs.drop off).take n)
 | es,vs,off,n,h=>by
  have hd:∀ {off:Nat} {es:List TE} {vs:List zb},zG z es vs->zG z (es.drop off) (vs.drop off):=by
   intro off;induction off with
   | zero=>intro es vs h; simpa using h
   | succ off ih=>
    intro es vs h;cases es with
    | nil=>simp only [zG] at h; subst h; simp [zG]
    | cons e es=>
     simp only [zG] at h;obtain ⟨v,vs',rfl,_,h2⟩:=h;exact ih h2
  have ht:∀ {n:Nat} {es:List TE} {vs:List zb},zG z es vs->zG z (es.take n) (vs.take n):=by
   intro n;induction n with
   | zero=>intro es vs h; simp [zG]
   | succ n ih=>
    intro es vs h;cases es with
    | nil=>simp only [zG] at h; subst h; simp [zG]
    | cons e es=>
     simp only [zG] at h;obtain ⟨v,vs',rfl,h1,h2⟩:=h;simp only [List.take_succ_cons,zG];exact ⟨v,_,rfl,h1,ih h2⟩
  exact ht (hd h)
theorem zjU {A:Type} {R:Rep A} {a:A} {et:TypeId} {x:Operand} {b off:Nat} {es:List TE} (k:Nat) (hls:Listed d ops rest) (hu:Und T et R) (hc:Cells R a ((es.drop off).take R.sz)) (hle:off+R.sz<=es.length) (hw:Want ops M Od o.guard) (ho:o.op=.load et x) (hd:o.dst=Ob t) (hx:Opd M x (.raw (.ptr b off))) (hk:L[k]?=Ob (.ptr b 0,.box es))
 (r:zr C T d ops rest ((t,.val R a)::M) L Q):zr C T d ops (o::rest) M L Q:=by
 refine zgh (.l hls (by rw [ho]; rfl) (by rw [ho]; rfl)) (λz fr h s=>by
  rw [show foot fr.op o=⟨zN (fr.op x),Oc,[],Oc⟩ by unfold foot; rw [ho]];exact ⟨λb' hb=>zit s hk rfl b' (by simpa [zN,hx.raw s.fr] using hb),λb hb=>(nomatch hb)⟩) hw hd (λz fr h s=>?_) r
 have hob:=s.own.ok _ (List.mem_of_getElem? hk);simp only [Obj.ok] at hob;obtain ⟨b',cells,q',h2,h3,h4⟩:=hob;cases q';have hlc:=zcd h3;have hr:=(hc z _).2 (zh0 (off:=off) (n:=R.sz) h3);obtain ⟨v,h5,h6⟩:=zgd (off:=off) (cells:=cells) hu.sz hu.agg J hr;refine ⟨v, ?_,by simp only [TE.ok]; exact h6⟩;rw [ho];simp only [aop,hx.raw s.fr,aload,h2,h5,zae,Option.map]
theorem znR {z:Store} {es fs:List TE} {vs us:List zb} {off:Nat} (h:zG z es vs) (hf:zG z fs us) (hle:off+fs.length<=es.length):zG z (es.take off++fs++es.drop (off+fs.length)) (splice vs off us):=by
 have h1:=zh0 (off:=0) (n:=off) h;have h2:=zh0 (off:=off+fs.length) (n:=es.length) h;have l1:=zcd h;have l2:=zcd hf;rw [List.drop_zero,List.drop_zero] at h1;rw [List.take_of_length_le (by rw [List.length_drop]; omega),List.take_of_length_le (by rw [List.length_drop]; omega)] at h2;unfold splice;rw [l2];have a1:=ze6.2 ⟨_,_,rfl,h1,hf⟩;exact ze6.2 ⟨_,_,rfl,a1,h2⟩
theorem zgr {A:Type} {R:Rep A} {a:A} {et:TypeId} {x y:Operand} {b off:Nat} {es es':List TE} (k:Nat) (hu:Und T et R) (hk:L[k]?=Ob (.ptr b 0,.box es)) (hc:Cells R a es') (hle:off+es'.length<=es.length) (hw:Want ops M Od o.guard) (ho:o.op=.store et x y) (hd:o.dst=Oe) (hx:Opd M x (.raw (.ptr b off))) (hy:Opd M y (.val R a))
 {L':Own} (hL:zeQ L k (.ptr b 0,.box (es.take off++es'++es.drop (off+es'.length)))=Ob L') (r:zr C T d ops rest M L' Q):zr C T d ops (o::rest) M L Q:=by
 refine ziy (.w (by rw [ho]; rfl) (λt a q=>by rw [ho] at q; cases q) (by rw [ho]; rfl) (λq=>by rw [ho] at q; cases q)) (λz fr h s=>by
  rw [show foot fr.op o=⟨[],Oc,zN (fr.op x),Oc⟩ by unfold foot; rw [ho]];exact ⟨λb hb=>(nomatch hb),λb' hb=>zet s hk rfl b' (by simpa [zN,hx.raw s.fr] using hb)⟩) hw hd (λz fr h s=>?_) r
 have hob:=s.own.ok _ (List.mem_of_getElem? hk);simp only [Obj.ok] at hob;obtain ⟨b',cells,q',h2,h3,h4⟩:=hob;cases q';have hv:=hy.val s.fr;have hlen:=R.len _ _ _ hv.rel;have hok:=(hc _ _).1 hv.rel;have hle':=zcd hok;have hlc:=zcd h3;have hones:=R.ones _ _ _ hv.rel;refine ⟨.tuple [],h.set b (.arr (splice cells off (fr.op y).cells) Oc), ?_,s.upd hk rfl rfl _ ?_ hL⟩
 . rw [ho];simp only [aop,hx.raw s.fr,astore,h2,hu.sz];rw [if_pos ⟨hlen,by omega,hones⟩];rfl
 . refine ⟨b,_,rfl,by rw [za.get_set,if_pos rfl],znR h3 hok hle, ?_⟩;unfold splice;rw [List.all_append,List.all_append,hones,Bool.and_true,Bool.and_eq_true];rw [List.all_eq_true] at h4;exact ⟨List.all_eq_true.2 λc hc=>h4 c (List.mem_of_mem_take hc),List.all_eq_true.2 λc hc=>h4 c (List.mem_of_mem_drop hc)⟩
end
inductive RE:Type 1 where
 | val {A:Type} (R:Rep A) (y:A)
 | row {A:Type} (R:Rep A) (ys:List A)
def tes:List RE->List zb->List TE
 | .val R y::rs,_::us=>.val R y::tes rs us
 | .row _ _::rs,u::us=>.raw u::tes rs us
 | _,_=>[]
def owns:List RE->List zb->Own
 | .val _ _::rs,_::us=>owns rs us
 | .row R ys::rs,u::us=>(u,.row R ys)::owns rs us
 | _,_=>[]
def Fun (T:Tab) (g:FuncId) (as:List TE) (rs:List RE):Prop:=
 ∀ z h vs,z.Sub h->h.wm<=h.next->zG z as vs->zk9 T g vs h λr h'=>∃ us z',r=.ret (packed us)/\us.length=rs.length/\Quiet h h'/\z.le z'/\z'.Sub h'/\(∀ b,b<h.next->z' b=z b)/\zG z' (tes rs us) us/\zg4 ⟨z,h,[]⟩ z' h' (owns rs us)
def zo4:List TE->TE
 | [e]=>e
 | es=>.tup es
def RQ:List RE->Own->(List TE->Own->Prop)->Prop
 | [],L,k=>k [] L
 | .val R y::rs,L,k=>RQ rs L λes L'=>k (.val R y::es) L'
 | .row R ys::rs,L,k=>∀ v,RQ rs L λes L'=>k (.raw v::es) ((v,.row R ys)::L')
theorem RQ.at:∀ {rs:List RE} {us:List zb} {L:Own} {k:List TE->Own->Prop},us.length=rs.length->RQ rs L k->k (tes rs us) (owns rs us++L)
 | [],[],L,k,_,h=>h
 | .val R y::rs,u::us,L,k,hl,h=>RQ.at (rs:=rs) (us:=us) (k:=λes L'=>k (.val R y::es) L') (by simpa using hl) h
 | .row R ys::rs,u::us,L,k,hl,h=>RQ.at (rs:=rs) (us:=us) (k:=λes L'=>k (.raw u::es) ((u,.row R ys)::L')) (by simpa using hl) (h u)
 | [],_::_,_,_,hl,_=>by simp at hl
 | _::_,[],_,_,hl,_=>by simp at hl
theorem zkv {z:Store} {rs:List RE} {us:List zb} (hl:us.length=rs.length) (h:zG z (tes rs us) us):(zo4 (tes rs us)).ok z (packed us):=by
 have hlen:(tes rs us).length=us.length:=(zcd h).symm
 match us,hl with
 | [],_=>
  have:tes rs []=[]:=List.length_eq_zero_iff.1 (by simpa using hlen);rw [this] at h ⊢;simp only [zo4,TE.ok];exact ⟨[],rfl,h⟩
 | [u],_=>
  obtain ⟨e,he⟩:=List.length_eq_one_iff.1 hlen;rw [he] at h ⊢;simp only [zG] at h;obtain ⟨v,vs,q,h1,rfl⟩:=h;cases q;exact h1
 | u::u'::us,_=>
  have:∃ e e' es,tes rs (u::u'::us)=e::e'::es:=by
   match htes:tes rs (u::u'::us),hlen with
   | e::e'::es,_=>exact ⟨e,e',es,rfl⟩
   | [_],hlen=>simp at hlen
   | [],hlen=>simp at hlen
  obtain ⟨e,e',es,he⟩:=this;rw [he] at h ⊢;simp only [zo4,TE.ok];exact ⟨_,rfl,h⟩
section
variable {C:Ctx} {T:Tab} {d:Option (List Nat)} {ops rest:List Oper} {M:Env} {L:Own} {Q:zg->za->Prop} {P:zaC->zg->za->Prop} {o:Oper} {t:Nat} {z:Store} {fr:zg} {h:za}
inductive Opds (M:Env):List Operand->List TE->Prop where
 | n:Opds M [] []
 | c {x:Operand} {e:TE} {xs:List Operand} {es:List TE} (h:Opd M x e) (r:Opds M xs es):Opds M (x::xs) (e::es)
theorem Opds.ok {xs:List Operand} {es:List TE} (q:Opds M xs es) (hf:ziM z M fr):zG z es (xs.map fr.op):=by
 induction q with
 | n=>simp [zG]
 | c h _ ih=>simp only [zG,List.map]; exact ⟨_,_,rfl,h.ok hf,ih⟩
theorem StZ.after (s:StZ C M L z fr h) {h':za} {z':Store} {O:Own} (q:Quiet h h') (hz:z.le z') (hs:z'.Sub h') (hold:∀ b,b<h.next->z' b=z b) (ho:zg4 ⟨z,h,[]⟩ z' h' O):StZ C M (O++L) z' fr h':=by
 refine { zle:=s.zle.trans hz,sub:=hs,old:=λb hb hB=>?_,fr:=s.fr.mono hz,own:=⟨?_, ?_, ?_⟩,chg:=⟨Nat.le_trans s.chg.next q.next,λb hb hB=>?_,λm m1 m2 m3=>?_,q.ok s.chg.ok⟩ }
 . rw [hold b (Nat.lt_of_lt_of_le hb s.chg.next)]; exact s.old b hb hB
 . intro p hp;rcases List.mem_append.1 hp with hp | hp
   . exact ho.ok p hp
   . exact Obj.ok_mono hz (λb hb=>q.same b (s.own.out p hp b hb).2.1) (s.own.ok p hp)
 . intro p hp b hb;rcases List.mem_append.1 hp with hp | hp
   . obtain ⟨o1,o2,o3⟩:=ho.out p hp b hb;refine ⟨o1,o2,.inl ?_⟩;rcases o3 with q1 | q1
     . exact Nat.le_trans s.chg.next q1
     . cases q1
   . obtain ⟨o1,o2,o3⟩:=s.own.out p hp b hb;exact ⟨by rw [hold b o2]; exact o1,Nat.lt_of_lt_of_le o2 q.next,o3⟩
 . rw [show blks (O++L)=blks O++blks L by simp [blks]];refine List.nodup_append.2 ⟨ho.nodup,s.own.nodup,λa ha b hb e=>?_⟩;subst e;obtain ⟨p,hp,h1⟩:=zbF.1 ha;obtain ⟨p',hp',h2⟩:=zbF.1 hb;have:=(s.own.out p' hp' a h2).2.1;rcases (ho.out p hp a h1).2.2 with q1 | q1
   . have q1:h.next<=a:=q1;omega
   . cases q1
 . rw [q.same b (Nat.lt_of_lt_of_le hb s.chg.next)]; exact s.chg.same b hb hB
 . have h1:=s.chg.wm m m1 m2 m3;have h2:=q.wm;have h3:=s.chg.next;omega
theorem ziz (hw:Want ops M Od o.guard) (hd:o.dst=Ob t) {rs:List RE} (hq:RQ rs L λes L'=>zr C T d ops rest ((t,zo4 es)::M) L' Q)
    (H:∀ z fr h,StZ C M L z fr h->∃ f vs,aop T fr.op h o.op=Ob (.call f vs)/\∀ h1,h1.next=h.next->(∀ b,h1.get b=h.get b)->h1.wm<=h1.next->zjH T f vs h1 λr h'=>∃ us z',r=.ret (packed us)/\us.length=rs.length/\Quiet h1 h'/\z.le z'/\z'.Sub h'/\(∀ b,b<h.next->z' b=z b)/\zG z' (tes rs us) us/\zg4 ⟨z,h1,[]⟩ z' h' (owns rs us)) :
    zr C T d ops (o::rest) M L Q:=by
  cases d with
  | none=>
    intro fr h ⟨z,s⟩;obtain ⟨f,vs,ha,hcall⟩:=H z fr h s;simp only [wX,hw.ok s.fr,ha,hd,zbl];refine (hcall h rfl (λ_=>rfl) s.chg.ok).mono λr h' ⟨us,z',e1,hl,q,hz,hs,hold,hok,hown⟩=>⟨packed us,e1, ?_⟩;have s':=s.after q hz hs hold hown;exact hq.at hl _ _ ⟨z',s'.set (zkv hl hok)⟩
  | some ol=>
    intro z fr h i done s hr hok hdn;obtain ⟨f,vs,ha,hcall⟩:=H z fr h s;have hi:ops[i]?=Ob o:=by have:=congrArg (λl=>l[0]?) hr; simpa using this
    have hlt:i<ops.length:=(List.getElem?_eq_some_iff.1 hi).1;have hr':ops.drop (i+1)=rest:=by have:=congrArg List.tail hr; simpa using this
    obtain ⟨c,fo,hoc,hcc,_⟩:=zc5 ha;have n1:zdk o.op=Oc:=by rw [hoc]; simp only [zdk,hcc]
    have n2:zkp o.op=Oc:=by rw [hoc]; simp only [zkp,hcc]
    have sl:StZ C M L z fr (lay h h.next):=s.low (Nat.le_refl _) (λm _ m2 _=>Nat.le_trans m2 s.chg.next);refine zkn (hw.ok s.fr) ha s.chg.ok (zgb hi hdn (zhe hok i hlt) rfl ⟨λb hb=>(nomatch hb),λb hb=>(nomatch hb)⟩ (λq=>by rw [n1] at q; cases q) (λq=>by rw [n2] at q; cases q) (λ_=>rfl) (λt et y q=>by rw [hoc] at q; cases q) (λt a q=>by rw [hoc] at q; cases q) (λq=>by rw [hoc] at q; simp [zhZ,hcc] at q)) ?_;refine (hcall (lay h h.next) rfl (λ_=>rfl) (Nat.le_refl _)).mono λr h' ⟨us,z',e1,hl,q,hz,hs,hold,hok',hown⟩=>⟨packed us,e1,q, ?_⟩;have s':=sl.after q hz hs hold hown;have s'':StZ C M (owns rs us++L) z' fr (lay h' (min h.wm h'.wm)):=s'.low (by have:=s'.chg.ok; omega) (λm m1 m2 m3=>by have h1:=s.chg.wm m m1 m2 m3; have h2:=s'.chg.wm m m1 m2 m3; omega);have hn:=hdn.next (z':=z') (h':=lay h' (min h.wm h'.wm)) (v:=packed us) hi hz q.next [(i,⟨[],Od,[],Oc⟩)] (λp hp=>by
      rw [List.mem_singleton] at hp;subst hp;refine ⟨rfl,rfl,λ_=>rfl,λq=>(by rw [hoc] at q; cases q),λb hb=>(by simp at hb),λq=>?_⟩;unfold zeO at q;rw [n1,hoc] at q;simp [zo0,znJ,hcc] at q) (λhal=>(zi6 hal ha).elim) (λr q=>by rw [hoc] at q; cases q) (λp _ t a q=>by rw [hoc] at q; cases q) (λp _ q=>by rw [hoc] at q; simp [zhZ,hcc] at q) (λp _ t a y q=>by rw [hoc] at q; cases q)
    rw [hd,zbl] at hn ⊢;exact hq.at hl z' _ _ (i+1) _ (s''.set (zkv hl hok')) hr' hok hn
theorem zzF {c:Call} {x:Operand} {g:FuncId} {pre post:List zb} {as:List TE} {rs:List RE} {vs:List TE} (hf:Fun T g as rs) (hcst:T.consts.get g=Oe) (hw:Want ops M Od o.guard) (ho:o.op=.call c) (hd:o.dst=Ob t) (hc:c.callee=.value x) (hx:Opd M x (.raw (.func (.func g) [] []))) (hvs:Opds M c.args.toList as)
 (hq:RQ rs L λes L'=>zr C T d ops rest ((t,zo4 es)::M) L' Q):zr C T d ops (o::rest) M L Q:=by
 refine ziz hw hd hq λz fr h s=>⟨.func (.func g) [] [],c.args.toList.map fr.op,by rw [ho]; simp only [aop,zc4,hc,hx.raw s.fr],λh1 hn hg hwm=>?_⟩;have hsub:z.Sub h1:=λb y hb=>by rw [hg,hn]; exact s.sub b y hb
 refine zdh hcst ?_;rw [List.nil_append,List.append_nil];refine (hf z h1 _ hsub hwm (hvs.ok s.fr)).mono λr h' ⟨us,z',e1,hl,q,hz,hs,hold,hok,hown⟩=>⟨us,z',e1,hl,q,hz,hs, ?_,hok,hown⟩;rw [← hn]; exact hold
def Rep.flat {A:Type} (R:Rep A):Prop:=∀ z z' cs x,R.rel z cs x->R.rel z' cs x
theorem zdI {k:IntKind}:Rep.flat (zi k):=λ_ _ _ _ h=>h
theorem zgs:Rep.flat zaS:=λ_ _ _ _ h=>h
theorem zhi:Rep.flat zcS:=λ_ _ _ _ h=>h
theorem zcD {A B:Type} {R:Rep A} {S:Rep B} (h1:Rep.flat R) (h2:Rep.flat S):Rep.flat (zI R S):=λ_ _ _ _ ⟨c1,c2,e,a,b⟩=>⟨c1,c2,e,h1 _ _ _ _ a,h2 _ _ _ _ b⟩
inductive Flats:List RE->Prop where
 | n:Flats []
 | v {A:Type} {R:Rep A} {y:A} {rs:List RE} (h:Rep.flat R) (r:Flats rs):Flats (.val R y::rs)
 | r {A:Type} {R:Rep A} {ys:List A} {rs:List RE} (h:Rep.flat R) (r:Flats rs):Flats (.row R ys::rs)
theorem Flats.ok:∀ {rs:List RE} {us:List zb} {z z':Store},Flats rs->zG z' (tes rs us) us->zG z (tes rs us) us
 | [],us,_,_,_,h=>by simpa [tes,zG] using h
 | .val R y::rs,[],_,_,_,h=>by simp [tes,zG]
 | .row R y::rs,[],_,_,_,h=>by simp [tes,zG]
 | .val R y::rs,u::us,z,z',.v h1 h2,h=>by
  simp only [tes,zG,TE.ok] at h ⊢;obtain ⟨v,vs,e,h3,h4⟩:=h;cases e;exact ⟨u,us,rfl,⟨h1 _ _ _ _ h3.rel,h3.agg⟩,h2.ok h4⟩
 | .row R y::rs,u::us,z,z',.r h1 h2,h=>by
  simp only [tes,zG,TE.ok] at h ⊢;obtain ⟨v,vs,e,h3,h4⟩:=h;cases e;exact ⟨u,us,rfl,rfl,h2.ok h4⟩
theorem Flats.own:∀ {rs:List RE} {us:List zb} {z z':Store} {h:za} {p:zb×Obj},Flats rs->p∈owns rs us->p.2.ok z' h p.1->p.2.ok z h p.1
 | [],us,_,_,_,p,_,hp,_=>by simp [owns] at hp
 | .val R y::rs,[],_,_,_,p,_,hp,_=>by simp [owns] at hp
 | .row R y::rs,[],_,_,_,p,_,hp,_=>by simp [owns] at hp
 | .val R y::rs,u::us,z,z',h,p,.v h1 h2,hp,ho=>by simp only [owns] at hp; exact h2.own hp ho
 | .row R y::rs,u::us,z,z',h,p,.r h1 h2,hp,ho=>by
  simp only [owns] at hp;rcases List.mem_cons.1 hp with rfl | hp
  . simp only [Obj.ok] at ho ⊢;refine ⟨ho.1, ?_⟩;rcases ho.2 with q | ⟨b,off,cap,cells,q1,q2,q3,q4,q5⟩
    . exact .inl q
    . exact .inr ⟨b,off,cap,cells,q1,q2,q3,q4,λi x hx=>h1 _ _ _ _ (q5 i x hx)⟩
  . exact h2.own hp ho
inductive Lend (M:Env) (L:Own):Operand->TE->Prop where
 | o {x:Operand} {e:TE} (h:Opd M x e):Lend M L x e
 | r {A:Type} {R:Rep A} {xs:List A} {v:zb} {x:Operand} (k:Nat) (h:Opd M x (.raw v)) (hk:L[k]?=Ob (v,.row R xs)):Lend M L x (.val (ze R) xs)
 | b {A:Type} {R:Rep A} {a:A} {es:List TE} {b:Nat} {x:Operand} (k:Nat) (h:Opd M x (.raw (.ptr b 0))) (hk:L[k]?=Ob (.ptr b 0,.box es)) (hc:Cells R a es):Lend M L x (.val (zaO R) a)
theorem zpY (h:za):(h.st).Sub h:=λb x hb=>⟨(za.st_lt hb).2,(za.st_lt hb).1⟩
theorem zmx (hs:z.Sub h):z.le h.st:=λb x hb=>za.st_of (hs b x hb).2 (hs b x hb).1
theorem Lend.ok {x:Operand} {e:TE} (q:Lend M L x e) (s:StZ C M L z fr h):e.ok h.st (fr.op x):=by
 have hle:=zmx s.sub;cases q with
 | o h=>exact TE.ok_mono hle (h.ok s.fr)
 | @r A R xs v _ k h hk=>
  simp only [TE.ok];rw [h.raw s.fr];have ho:=s.own.ok _ (List.mem_of_getElem? hk);simp only [Obj.ok] at ho;refine zbo ⟨ho.1, ?_⟩;rcases ho.2 with ⟨q,e⟩ | ⟨b,off,cap,cells,q,h2,h3,h4,h5⟩
  . exact .inl ⟨q,e⟩
  . subst q;have hb:=(s.own.out _ (List.mem_of_getElem? hk) b (by simp [zfl,zhy])).2.1;exact .inr (.inr ⟨b,off,cap,cells,Oc,rfl,za.st_of hb h2,h3,λc hc=>(h4 c hc).1,λi x hx=>R.mono _ _ _ _ hle (h5 i x hx)⟩)
 | @b A R a es b _ k h hk hc=>
  simp only [TE.ok];rw [h.raw s.fr];have ho:=s.own.ok _ (List.mem_of_getElem? hk);simp only [Obj.ok] at ho;obtain ⟨b',cells,q,h2,h3,h4⟩:=ho;cases q;have hb:=(s.own.out _ (List.mem_of_getElem? hk) b (by simp [zfl,zhy])).2.1;have hr:=(hc z cells).2 h3;have hl:=R.len _ _ _ hr;refine zfT ⟨b,0,cells,Oc,rfl,za.st_of hb h2,by omega, ?_⟩;rw [List.drop_zero,← hl,List.take_length];exact R.mono _ _ _ _ hle hr
inductive Lends (M:Env) (L:Own):List Operand->List TE->Prop where
 | n:Lends M L [] []
 | c {x:Operand} {e:TE} {xs:List Operand} {es:List TE} (h:Lend M L x e) (r:Lends M L xs es):Lends M L (x::xs) (e::es)
theorem Lends.ok {xs:List Operand} {es:List TE} (q:Lends M L xs es) (s:StZ C M L z fr h):zG h.st es (xs.map fr.op):=by
 induction q with
 | n=>simp [zG]
 | c h _ ih=>simp only [zG,List.map]; exact ⟨_,_,rfl,h.ok s,ih⟩
theorem znS {g:FuncId} {as:List TE} {rs:List RE} (hfl:Flats rs) {vs:List zb} {h1:za} (s:StZ C M L z fr h1) (hf:Fun T g as rs) (hok:zG h1.st as vs) (hwm:h1.wm<=h1.next) :
    zk9 T g vs h1 λr h'=>∃ us z',r=.ret (packed us)/\us.length=rs.length/\Quiet h1 h'/\z.le z'/\z'.Sub h'/\(∀ b,b<h1.next->z' b=z b)/\zG z' (tes rs us) us/\zg4 ⟨z,h1,[]⟩ z' h' (owns rs us):=by
  refine (hf h1.st h1 _ (zpY h1) hwm hok).mono λr h' ⟨us,z',e1,hl,q,hz,hs,hold,hok,hown⟩=>⟨us,z,e1,hl,q,.refl _, ?_,λ_ _=>rfl,hfl.ok hok, ?_⟩
  · intro b y hb;obtain ⟨h2,h3⟩:=s.sub b y hb;exact ⟨by rw [q.same b h3]; exact h2,Nat.lt_of_lt_of_le h3 q.next⟩
  · refine ⟨λp hp=>hfl.own hp (hown.ok p hp),λp hp b hb=>?_,hown.nodup⟩;obtain ⟨o1,o2,o3⟩:=hown.out p hp b hb;refine ⟨?_,o2,o3⟩;rcases o3 with q1 | q1
    · cases e:z b with
      | none=>rfl
      | some y=>
        have:=(s.sub b y e).2;have q1:h1.next<=b:=q1;omega
    · cases q1
theorem zhj {c:Call} {x:Operand} {g:FuncId} {as:List TE} {rs:List RE} (hf:Fun T g as rs) (hfl:Flats rs) (hcst:T.consts.get g=Oe) (hw:Want ops M Od o.guard) (ho:o.op=.call c) (hd:o.dst=Ob t) (hc:c.callee=.value x) (hx:Opd M x (.raw (.func (.func g) [] []))) (hvs:Lends M L c.args.toList as)
 (hq:RQ rs L λes L'=>zr C T d ops rest ((t,zo4 es)::M) L' Q):zr C T d ops (o::rest) M L Q:=by
 refine ziz hw hd hq λz fr h s=>⟨.func (.func g) [] [],c.args.toList.map fr.op,by rw [ho]; simp only [aop,zc4,hc,hx.raw s.fr],λh1 hn hg hwm=>?_⟩;refine zdh hcst ?_;rw [List.nil_append,List.append_nil];have est:h1.st=h.st:=by funext b; unfold za.st; rw [hn,hg]
 have s1:StZ ⟨z,h1,[]⟩ M [] z fr h1:=
  { zle:=.refl _,sub:=λb y hb=>by rw [hn,hg]; exact s.sub b y hb,old:=λ_ _ _=>rfl,fr:=s.fr,own:=⟨λp hp=>(nomatch hp),λp hp=>(nomatch hp),List.nodup_nil⟩,chg:=⟨Nat.le_refl _,λ_ _ _=>rfl,λ_ m1 _ _=>m1,hwm⟩ }
 have:=znS (T:=T) hfl s1 hf (by rw [est]; exact hvs.ok s) hwm;rw [hn] at this;exact this
theorem zzG {c:Call} {x:Operand} {g:FuncId} {p:List zb->Option zb} {vs:List zb} {v:zb} {e:TE} (hcst:T.consts.get g=Ob p) (hp:p vs=Ob v) (he:∀ z,e.ok z v) (hw:Want ops M Od o.guard) (ho:o.op=.call c) (hd:o.dst=Ob t) (hc:c.callee=.value x) (hx:Opd M x (.raw (.func (.func g) [] []))) (hvs:∀ z fr,ziM z M fr->c.args.toList.map fr.op=vs)
    (r:zr C T d ops rest ((t,e)::M) L Q):zr C T d ops (o::rest) M L Q:=by
  cases d with
  | none=>
    intro fr h ⟨z,s⟩;have ha:aop T fr.op h o.op=Ob (.call (.func (.func g) [] []) vs):=by
      rw [ho]; simp only [aop,zc4,hc,hx.raw s.fr,hvs z fr s.fr]
    simp only [wX,hw.ok s.fr,ha,hd,zbl];exact zko hcst (by simpa using hp) ⟨v,rfl,r _ _ ⟨z,s.set (he z)⟩⟩
  | some ol=>
    intro z fr h i done s hr hok hdn;have ha:aop T fr.op h o.op=Ob (.call (.func (.func g) [] []) vs):=by
      rw [ho]; simp only [aop,zc4,hc,hx.raw s.fr,hvs z fr s.fr]
    have hi:ops[i]?=Ob o:=by have:=congrArg (λl=>l[0]?) hr; simpa using this
    have hlt:i<ops.length:=(List.getElem?_eq_some_iff.1 hi).1;have hr':ops.drop (i+1)=rest:=by have:=congrArg List.tail hr; simpa using this
    have n1:zdk o.op=Oc:=by rw [ho]; simp only [zdk,hc]
    have n2:zkp o.op=Oc:=by rw [ho]; simp only [zkp,hc]
    refine zkn (hw.ok s.fr) ha s.chg.ok (zgb hi hdn (zhe hok i hlt) rfl ⟨λb hb=>(nomatch hb),λb hb=>(nomatch hb)⟩ (λq=>by rw [n1] at q; cases q) (λq=>by rw [n2] at q; cases q) (λ_=>rfl) (λt et y q=>by rw [ho] at q; cases q) (λt a q=>by rw [ho] at q; cases q) (λq=>by rw [ho] at q; simp [zhZ,hc] at q)) ?_;refine zko hcst (by simpa using hp) ⟨v,rfl,Quiet.refl _, ?_⟩;have e:({ lay h h.next with wm:=min h.wm (lay h h.next).wm }:za)=h:=zuH s.chg.ok;have hn:=hdn.next (z':=z) (h':=h) (v:=v) hi (.refl _) (Nat.le_refl _) [(i,⟨[],Od,[],Oc⟩)] (λp hp=>by
      rw [List.mem_singleton] at hp;subst hp;refine ⟨rfl,rfl,λ_=>rfl,λq=>(by rw [ho] at q; cases q),λb hb=>(by simp at hb),λq=>?_⟩;unfold zeO at q;rw [n1,ho] at q;simp [zo0,znJ,hc] at q) (λhal=>(zi6 hal ha).elim) (λr q=>by rw [ho] at q; cases q) (λp _ t a q=>by rw [ho] at q; cases q) (λp _ q=>by rw [ho] at q; simp [zhZ,hc] at q) (λp _ t a y q=>by rw [ho] at q; cases q)
    rw [hd,zbl] at hn ⊢;have:=r z _ h (i+1) _ (s.set (he z)) hr' hok hn;exact e.symm▸this
def zBZ (id:Nat) (P:zaC->zg->za->Prop):zaC->zg->za->Prop
 | .exit i=>bif Nat.beq i id then P .normal else P (.exit i)
 | e=>P e
def zB0 (C:Ctx) (T:Tab) (b:Code) (P:zaC->zg->za->Prop):zaC->zg->za->Prop
 | .normal=>λfr h=>Run T b fr h P
 | e=>P e
theorem zq5 {a b:Code} (r:ze5 C T a M L (zB0 C T b P)):ze5 C T (.seq a b) M L P:=λfr h s=>
 zw1 ((r fr h s).mono λe _ _ q=>by cases e<;>exact q)
theorem zkw {id:Nat} {c:Code} (r:ze5 C T c M L (zBZ id P)):ze5 C T (.block id c) M L P:=λfr h s=>
 zr4 ((r fr h s).mono λe _ _ q=>by
  cases e with
  | exit i=>
   simp only [zBZ] at q;simp only [zpS];by_cases e:i=id
   . subst e; rw [if_pos rfl]; simpa using q
   . have:Nat.beq i id=Oc:=by rw [Bool.eq_false_iff]; intro q; exact e (Nat.eq_of_beq_eq_true q)
     rw [this] at q; rw [if_neg e]; exact q
  | _=>exact q)
theorem zhB {id:Nat} {ops:Array Oper} (r:zr C T Oe ops.toList ops.toList M L (P .normal)):ze5 C T (.region id ops Oc) M L P:=λfr h s=>zqY (zjS (r fr h s))
def zsm (ol:List Nat) (M:Env) (L:Own):Prop:=∀ r∈zfo ol,∀ r'∈zcT ol,r≠r'->∃ (b o j:Nat) (p:zb×Obj),look M r=Ob (.raw (.ptr b o))/\L[j]?=Ob p/\b∈zfl p/\((∃ (b' o' j':Nat) (p':zb×Obj),look M r'=Ob (.raw (.ptr b' o'))/\L[j']?=Ob p'/\b'∈zfl p'/\j≠j')\/∃ (A:Type) (R:Rep A) (x:A),look M r'=Ob (.val (zaO R) x))
theorem zsm.ok {ol:List Nat} (h:zsm ol M L) {z:Store} {fr:zg} {hh:za} (s:StZ C M L z fr hh):∀ r∈zfo ol,∀ r'∈zcT ol,r≠r'->∀ x∈zN (fr.ev r),x∉zN (fr.ev r'):=by
 intro r hr r' hr' hne x hx hx';obtain ⟨b,o,j,p,h1,h2,h3,h4⟩:=h r hr r' hr' hne;have e:=s.fr _ _ h1;simp only [TE.ok] at e;rw [e] at hx;simp only [zN,List.mem_singleton] at hx;subst hx;rcases h4 with ⟨b',o',j',p',k1,k2,k3,k4⟩ | ⟨A,R,y,k1⟩
 . have e':=s.fr _ _ k1;simp only [TE.ok] at e';rw [e'] at hx';simp only [zN,List.mem_singleton] at hx';subst hx';exact k4 (zdE s.own.nodup h2 k2 h3 k3)
 . have e':=s.fr _ _ k1;simp only [TE.ok] at e';obtain ⟨b',off,cells,ro,q1,q2,_⟩:=zir e';rw [q1] at hx';simp only [zN,List.mem_singleton] at hx';subst hx';rw [(s.own.out _ (List.mem_of_getElem? h2) _ h3).1] at q2;cases q2
theorem zzH {ol:List Nat} (h:zfo ol=[]):zsm ol M L:=λr hr=>by rw [h] at hr; cases hr
inductive RAt (M:Env) (L:Own):Nat->Option Nat->Prop where
 | o {r b o j:Nat} {es:List TE} (hl:look M r=Ob (.raw (.ptr b o))) (hj:L[j]?=Ob (.ptr b 0,.box es)):RAt M L r (Ob j)
 | q {A:Type} {R:Rep A} {x:A} {r:Nat} (hl:look M r=Ob (.val (zaO R) x)):RAt M L r Oe
inductive zzb (M:Env) (L:Own):List Nat->List (Option Nat)->Prop where
 | n:zzb M L [] []
 | c {r:Nat} {j:Option Nat} {rs:List Nat} {js:List (Option Nat)} (h:RAt M L r j) (t:zzb M L rs js):zzb M L (r::rs) (j::js)
theorem zzb.at {rs:List Nat} {js:List (Option Nat)} (h:zzb M L rs js):∀ {r:Nat},r∈rs->∃ (i:Nat) (j:Option Nat),rs[i]?=Ob r/\js[i]?=Ob j/\RAt M L r j:=by
 induction h with
 | n=>intro r hr; cases hr
 | @c r0 j0 _ _ h _ ih=>
  intro r hr;rcases List.mem_cons.1 hr with rfl | hr
  . exact ⟨0,j0,rfl,rfl,h⟩
  . obtain ⟨i,j,h1,h2,h3⟩:=ih hr;exact ⟨i+1,j,h1,h2,h3⟩
def neO (k:Nat):Option Nat->Bool
 | some k'=>!Nat.beq k k'
 | none=>Od
def zxd:List (Option Nat)->Bool
 | []=>Od
 | some k::js=>js.all (neO k)&&zxd js
 | none::js=>zxd js
theorem zo5:∀ {js:List (Option Nat)} {a b k:Nat},zxd js=Od->a<b->js[a]?=Ob (Ob k)->js[b]?=Ob (Ob k)->False
 | j::js,0,b+1,k,h,_,h1,h2=>by
  cases h1;simp only [zxd,Bool.and_eq_true] at h;have:=List.all_eq_true.1 h.1 (Ob k) (List.mem_of_getElem? (i:=b) h2);simp [neO] at this
 | j::js,a+1,b+1,k,h,hlt,h1,h2=>by
  have h:zxd js=Od:=by
   cases j with
   | none=>exact h
   | some q=>simp only [zxd,Bool.and_eq_true] at h; exact h.2
  exact zo5 (js:=js) (a:=a) (b:=b) h J h1 h2
 | [],_,_,_,_,_,h1,_=>by cases h1
 | _,_,0,_,_,hlt,_,_=>by omega
theorem rdists {ol rs:List Nat} {js:List (Option Nat)} (h:zcT ol=rs) (h2:∀ r∈zfo ol,∀ j,RAt M L r j->j≠Oe) (ha:zzb M L rs js) (hj:zxd js=Od):zsm ol M L:=λr hr r' hr' hne=>by
 subst h;obtain ⟨i,j,a1,a2,a3⟩:=ha.at (znN hr);obtain ⟨i',j',b1,b2,b3⟩:=ha.at hr';have hii:i≠i':=λe=>by subst e; rw [a1] at b1; exact hne (Option.some.inj b1)
 have hjn:=h2 r hr j a3;cases a3 with
 | q _=>exact absurd rfl hjn
 | @o _ b o k es l1 l2=>
  refine ⟨b,o,k,_,l1,l2,by simp [zfl,zhy], ?_⟩;cases b3 with
  | q m=>exact .inr ⟨_,_,_,m⟩
  | @o _ b' o' k' es' m1 m2=>
   refine .inl ⟨b',o',k',_,m1,m2,by simp [zfl,zhy],λe=>?_⟩;subst e;rcases Nat.lt_or_gt_of_ne hii with q | q
   ·exact zo5 hj q a2 b2
   ·exact zo5 hj q b2 a2
theorem rown {r:Nat} {v:zb} (h:look M r=Ob (.raw v)):∀ j,RAt M L r j->j≠Oe:=λj q e=>by
 subst e;cases q with
 | q hl=>rw [h] at hl; cases hl
def zpZ (M:Env):List Nat->Bool
 | []=>Od
 | r::rs=>(match look M r with | some (.raw _)=>Od | _=>Oc)&&zpZ M rs
theorem rowns {ol:List Nat} (h:zpZ M (zfo ol)=Od):∀ r∈zfo ol,∀ j,RAt M L r j->j≠Oe:=by
 have key:∀ rs:List Nat,zpZ M rs=Od->∀ r∈rs,∃ v,look M r=Ob (.raw v):=by
  intro rs;induction rs with
  | nil=>intro _ r hr; cases hr
  | cons r0 rs ih=>
   intro q r hr;simp only [zpZ,Bool.and_eq_true] at q;rcases List.mem_cons.1 hr with rfl | hr
   . have:=q.1;split at this
     . rename_i v e; exact ⟨v,e⟩
     . cases this
   . exact ih q.2 r hr
 intro r hr;obtain ⟨v,hv⟩:=key _ h r hr;exact rown hv
theorem RDO {p:Prop} (h:p:=by first | exact zzH rfl | exact rdist1 rfl rfl):p:=h
theorem zax {id:Nat} {ops:Array Oper} (ol:List Nat) (hok:znM ops.toList ol ops.toList.length=Od) (r:zr C T (Ob ol) ops.toList ops.toList M L (P .normal)) (hdi:zsm ol M L:=by exact RDO):ze5 C T (.region id ops Od) M L P:=λfr h ⟨z,s⟩=>
 zuB (r z fr h 0 [] s rfl hok ⟨λ_ hp=>(nomatch hp),λj _ _ hj=>(nomatch hj),λ_ _ _ _ hj=>(nomatch hj),λ_ _ _ _ hp=>(nomatch hp),λ_ hp=>(nomatch hp),λ_ hp=>(nomatch hp),λr hr r' hr' hne _ _=>hdi.ok s r hr r' hr' hne⟩)
theorem zgt (q:∀ fr h,St C M L fr h->P .normal fr h):ze5 C T .skip M L P:=λfr h s=>zpQ (q fr h s)
theorem zp0 {id:Nat} (q:∀ fr h,St C M L fr h->P (.exit id) fr h):ze5 C T (.exit id) M L P:=λfr h s=>zpR (q fr h s)
theorem zfr (q:∀ fr h,St C M L fr h->P .ret fr h):ze5 C T .ret M L P:=λfr h s=>zw0 (q fr h s)
theorem zsn {c:Operand} {a b:Code} {q:Bool} (hc:Opd M c (.val zaS q)) (r1:q=Od->ze5 C T a M L P) (r0:q=Oc->ze5 C T b M L P):ze5 C T (.cond c a b) M L P:=by
 intro fr h s;have s0:=s;obtain ⟨z,s⟩:=s;refine zuA (hc.bool s.fr) ?_;cases q with
 | true=>exact r1 rfl fr h s0
 | false=>exact r0 rfl fr h s0
theorem zxe {c:Code} (hg:∀ l fr h,¬ P (.goto l) fr h) (r:ze5 C T c M L P):ze5 C T (.scope c) M L P:=λfr h s=>zr5 (r fr h s) hg
def iter {σ τ:Type} (f:σ->Option (σ⊕τ)):Nat->σ->Option τ
 | 0,_=>Oe
 | n+1,s=>match f s with
  | some (.inl s')=>iter f n s'
  | some (.inr t)=>Ob t
  | none=>Oe
abbrev Sts:=Env×Own
def zxf (C:Ctx) {σ τ G:Type} (I:σ->G->Sts) (X:τ->zaC×(G->Sts)) (r:σ⊕τ) (e:zaC) (fr:zg) (h:za):Prop:=
 match r with
 | .inl s=>e=.normal/\∃ g,St C (I s g).1 (I s g).2 fr h
 | .inr t=>e=(X t).1/\∃ g,St C ((X t).2 g).1 ((X t).2 g).2 fr h
theorem zzI {σ τ G:Type} {c:Code} (I:σ->G->Sts) (X:τ->zaC×(G->Sts)) (f:σ->Option (σ⊕τ)) {n:Nat} {s0:σ} {t:τ} (g0:G) (hit:iter f n s0=Ob t) (hin:∀ fr h,St C M L fr h->St C (I s0 g0).1 (I s0 g0).2 fr h) (hne:∀ t,(X t).1≠.normal)
    (body:∀ s g r,f s=Ob r->ze5 C T c (I s g).1 (I s g).2 (zxf C I X r)) (out:∀ g,∀ fr h,St C ((X t).2 g).1 ((X t).2 g).2 fr h->P (X t).1 fr h):ze5 C T (.loop c) M L P:=by
  suffices H:∀ n s0 g0,iter f n s0=Ob t->∀ fr h,St C (I s0 g0).1 (I s0 g0).2 fr h->Run T (.loop c) fr h P from λfr h s=>H n s0 g0 hit fr h (hin fr h s)
  clear hit hin n s0 g0;intro n;induction n with
  | zero=>intro s0 g0 hit; cases hit
  | succ n ih=>
    intro s0 g0 hit fr h s;simp only [iter] at hit;split at hit
    · rename_i s' hf;obtain ⟨m,e,fr',h',h1,rfl,g,h2⟩:=body s0 g0 _ hf fr h s;obtain ⟨k,e2,fr2,hh2,h3,h4⟩:=ih s' g hit fr' h' h2;refine ⟨max m k+1,e2,fr2,hh2, ?_,h4⟩;rw [aexec,zd5 (Nat.le_max_left m k) _ _ _ _ h1];exact zd5 (Nat.le_max_right m k) _ _ _ _ h3
    · rename_i t' hf;cases hit;obtain ⟨m,e,fr',h',h1,he,g,h2⟩:=body s0 g0 _ hf fr h s;refine ⟨m+1,e,fr',h', ?_,by rw [he]; exact out g fr' h' h2⟩;have:=hne t;rw [aexec,h1];rw [he];cases hx:(X t).1 with
      | normal=>exact absurd hx this
      | _=>rfl
    · cases hit
def zB1 (C:Ctx) {τ G:Type} (X:τ->zaC×(G->Sts)) (t:τ) (e:zaC) (fr:zg) (h:za):Prop:=e=(X t).1/\∃ g,St C ((X t).2 g).1 ((X t).2 g).2 fr h
theorem zA6 {τ G:Type} {c:Code} (X:τ->zaC×(G->Sts)) {t:τ} (r:ze5 C T c M L (zB1 C X t)) (out:∀ g,∀ fr h,St C ((X t).2 g).1 ((X t).2 g).2 fr h->P (X t).1 fr h):ze5 C T c M L P:=λfr h s=>
 (r fr h s).mono λe fr' h' ⟨he,g,q⟩=>by rw [he]; exact out g fr' h' q
def entry:Nat->List TE->Env
 | _,[]=>[]
 | i,e::es=>(i,e)::entry (i+1) es
theorem argFrame_ev:∀ {vs:List zb} {i:Nat} {fr:zg} {t:Nat},t<i->(zbk i vs fr).ev t=fr.ev t
 | [],_,_,_,_=>rfl
 | v::vs,i,fr,t,h=>by
  simp only [zbk];rw [argFrame_ev J,zg.ev_set,if_neg J]
theorem zjV:∀ {es:List TE} {vs:List zb} {i:Nat} {fr:zg},zG z es vs->ziM z (entry i es) (zbk i vs fr)
 | [],_,_,_,_,t,e,h=>by cases h
 | a::es,_,i,fr,hok,t,e,h=>by
  simp only [zG] at hok;obtain ⟨v,vs,rfl,h1,h2⟩:=hok;simp only [entry,look] at h;simp only [zbk];cases hb:Nat.beq i t with
  | true=>
   have:=Nat.eq_of_beq_eq_true hb;subst this;rw [hb] at h;cases h;rw [argFrame_ev J,zg.ev_set,if_pos rfl];exact h1
  | false=>rw [hb] at h; exact zjV h2 t e h
def zAH (C:Ctx) (T:Tab) (res:List ResultVar) (rs:List RE) (e:zaC) (fr:zg) (h:za):Prop:=
 (e=.normal\/e=.ret)/\∃ us z,aresults T res fr h=Ob us/\us.length=rs.length/\C.z0.le z/\z.Sub h/\(∀ b,b<C.h0.next->b∉C.B0->z b=C.z0 b)/\zG z (tes rs us) us/\zg4 C z h (owns rs us)/\Chg C h
theorem zuQ {res:List ResultVar} {rs:List RE}:∀ l fr h,¬ zAH C T res rs (.goto l) fr h:=λl fr h q=>by rcases q.1 with e | e<;>cases e
inductive Rets (T:Tab) (M:Env) (L:Own):List ResultVar->List RE->List Nat->Prop where
 | n:Rets T M L [] [] []
 | v {A:Type} {R:Rep A} {y:A} {t:Nat} {res:List ResultVar} {rs:List RE} {ks:List Nat} (h:look M t=Ob (.val R y)) (r:Rets T M L res rs ks):Rets T M L (.tmp t::res) (.val R y::rs) ks
 | r {A:Type} {R:Rep A} {ys:List A} {v:zb} {t:Nat} {res:List ResultVar} {rs:List RE} (k:Nat) {ks:List Nat} (h:look M t=Ob (.raw v)) (hk:L[k]?=Ob (v,.row R ys)) (r:Rets T M L res rs ks):Rets T M L (.tmp t::res) (.row R ys::rs) (k::ks)
 | c {A:Type} {R:Rep A} {y:A} {t:Nat} {ty:TypeId} {res:List ResultVar} {rs:List RE} {ks:List Nat} (hu:Und T ty R) (h:look M t=Ob (.val (zaO R) y)) (r:Rets T M L res rs ks):Rets T M L (.cell t ty::res) (.val R y::rs) ks
 | b {A:Type} {R:Rep A} {y:A} {t b:Nat} {ty:TypeId} {es:List TE} {res:List ResultVar} {rs:List RE} (k:Nat) {ks:List Nat} (hu:Und T ty R) (hc:Cells R y es) (h:look M t=Ob (.raw (.ptr b 0))) (hk:L[k]?=Ob (.ptr b 0,.box es)) (r:Rets T M L res rs ks):Rets T M L (.cell t ty::res) (.val R y::rs) ks
 | a {A:Type} {R:Rep A} {ys:List A} {n:Nat} {t b:Nat} {ty et:TypeId} {res:List ResultVar} {rs:List RE} (k:Nat) {ks:List Nat} (har:Ar1 T ty et n R) (h:look M t=Ob (.raw (.ptr b 0))) (hk:L[k]?=Ob (.slice b 0 n R.sz (Ob n),.row R ys)) (r:Rets T M L res rs ks):Rets T M L (.cell t ty::res) (.val (zhG n R) ys::rs) ks
theorem Rets.ok {res:List ResultVar} {rs:List RE} {ks:List Nat} (q:Rets T M L res rs ks) (s:StZ C M L z fr h):∃ us,aresults T res fr h=Ob us/\us.length=rs.length/\zG z (tes rs us) us/\owns rs us=picks L ks:=by
 induction q with
 | n=>exact ⟨[],rfl,rfl,by simp [tes,zG],rfl⟩
 | @v A R y t res rs ks hl _ ih=>
  obtain ⟨us,h1,h2,h3,h4⟩:=ih;have:=s.fr _ _ hl;refine ⟨fr.ev t::us,by simp only [aresults,aresult,h1],by simp [h2], ?_,by simpa only [owns] using h4⟩;simp only [tes,zG];exact ⟨_,_,rfl,this,h3⟩
 | @r A R ys v t res rs k ks hl hk _ ih=>
  obtain ⟨us,h1,h2,h3,h4⟩:=ih;have:=s.fr _ _ hl;simp only [TE.ok] at this;refine ⟨fr.ev t::us,by simp only [aresults,aresult,h1],by simp [h2], ?_, ?_⟩
  . simp only [tes,zG,TE.ok];exact ⟨_,_,rfl,rfl,h3⟩
  . simp only [owns,picks,hk,h4,this]
 | @c A R y t ty res rs ks hu hl _ ih=>
  obtain ⟨us,h1,h2,h3,h4⟩:=ih;have hp:=s.fr _ _ hl;simp only [TE.ok] at hp;obtain ⟨b,off,cells,ro,e1,e2,e3,e4⟩:=zir hp;obtain ⟨v,h5,h6⟩:=zgd hu.sz hu.agg e3 e4;refine ⟨v::us,by simp only [aresults,aresult,aload,e1,(s.sub _ _ e2).1,h5,h1],by simp [h2], ?_,by simpa only [owns] using h4⟩;simp only [tes,zG,TE.ok];exact ⟨_,_,rfl,h6,h3⟩
 | @b A R y t b ty es res rs k ks hu hc hl hk _ ih=>
  obtain ⟨us,h1,h2,h3,h4⟩:=ih;have hp:=s.fr _ _ hl;simp only [TE.ok] at hp;have hob:=s.own.ok _ (List.mem_of_getElem? hk);simp only [Obj.ok] at hob;obtain ⟨b',cells,q',g2,g3,g4⟩:=hob;cases q';have hr:=(hc z cells).2 g3;have hlen:=R.len _ _ _ hr;obtain ⟨v,h5,h6⟩:=zgd (off:=0) (cells:=cells) hu.sz hu.agg J (by rw [List.drop_zero,← hlen,List.take_length]; exact hr);refine ⟨v::us,by simp only [aresults,aresult,aload,hp,g2,h5,h1],by simp [h2], ?_,by simpa only [owns] using h4⟩;simp only [tes,zG,TE.ok];exact ⟨_,_,rfl,h6,h3⟩
 | @a A R ys n t b ty et res rs k ks har hl hk _ ih=>
  obtain ⟨us,h1,h2,h3,h4⟩:=ih;have hp:=s.fr _ _ hl;simp only [TE.ok] at hp;have hr:=s.own.ok _ (List.mem_of_getElem? hk);simp only [Obj.ok] at hr;rcases hr.2 with ⟨q,_⟩ | ⟨b',off,cap,cells,q,g1,g2,g3,g4⟩
  . cases q
  . cases q;have hcl:0+ys.length*R.sz<=cells.length:=g2;have hl':((cells.drop 0).take (ys.length*R.sz)).length=ys.length*R.sz:=by simp; omega
    have hpp:∀ i x,ys[i]?=Ob x->R.rel z ((((cells.drop 0).take (ys.length*R.sz)).drop (i*R.sz)).take R.sz) x:=by
     intro i x hi;have h6:=zeu (off:=0) (i:=i) (R:=R) (cells:=cells.take (ys.length*R.sz)) Oj hi;rw [List.drop_zero,List.drop_take,List.take_take,Nat.min_eq_left]
     . have:=g4 i x hi; rwa [Nat.zero_add] at this
     . simp at h6; omega
    refine ⟨.agg ((cells.drop 0).take (ys.length*R.sz))::us, ?_,by simp [h2], ?_,by simpa only [owns] using h4⟩
    . simp only [aresults,aresult,aload,hp,g1,Go.Ai.apart,har.isagg,har.whole,h1];rw [if_pos J]
    . simp only [tes,zG,TE.ok];exact ⟨_,_,rfl,⟨⟨rfl,hl',zi8 har.pos hl' hpp,hpp⟩,rfl⟩,h3⟩
theorem zds {e:zaC} {res:List ResultVar} {rs:List RE} {ks:List Nat} (he:e=.normal\/e=.ret) (q:Rets T M L res rs ks) (hn:ks.Nodup):∀ fr h,St C M L fr h->zAH C T res rs e fr h:=by
 intro fr h ⟨z,s⟩;obtain ⟨us,h1,h2,h3,h4⟩:=q.ok s;obtain ⟨z',s'⟩:=(show St C M L fr h from ⟨z,s⟩);refine ⟨he,us,z,h1,h2,s.zle,s.sub,s.old,h3, ?_,s.chg⟩;rw [h4];refine ⟨λp hp=>?_,λp hp=>?_,zcM s.own.nodup hn⟩
 . obtain ⟨i,_,h2⟩:=zdS hp;exact s.own.ok p (List.mem_of_getElem? h2)
 . obtain ⟨i,_,h2⟩:=zdS hp;exact s.own.out p (List.mem_of_getElem? h2)
theorem zzJ {g:FuncId} {F:Func} {c:Code} {as:List TE} {rs:List RE} (hF:T.funcs.get g=Ob F) (hb:F.body=Ob c) (hn:Nat.blt F.ntmps as.length=Oc) (run:∀ C,C.B0=[]->ze5 C T c (entry 0 as) [] (zAH C T F.results.toList rs)):Fun T g as rs:=by
 intro z h vs hsub hwm hok;refine zmn hF hb (by rw [zcd hok]; exact hn) ?_;have s0:StZ ⟨z,h,[]⟩ (entry 0 as) [] z (zbk 0 vs .leaf) h:=
  { zle:=.refl _,sub:=hsub,old:=λ_ _ _=>rfl,fr:=zjV hok,own:=⟨λp hp=>(nomatch hp),λp hp=>(nomatch hp),List.nodup_nil⟩,chg:=⟨Nat.le_refl _,λ_ _ _=>rfl,λ_ m1 _ _=>m1,hwm⟩ }
 refine (run ⟨z,h,[]⟩ rfl _ _ ⟨z,s0⟩).mono λe fr h' ⟨he,us,z',h1,h2,h3,h4,h5,h6,h7,h8⟩=>⟨he,us,h1,us,z',rfl,h2, ?_,h3,h4,λb hb=>h5 b hb (λq=>nomatch q),h6,h7⟩;exact ⟨h8.next,λb hb=>h8.same b hb (λq=>nomatch q),h8.wm _ (Nat.min_le_left _ _) (Nat.min_le_right _ _) (λ_ q=>nomatch q),λ_=>h8.ok⟩
end
end Go.Ai.Sx