/- Symbolic runs of the abstract interpreter: small steps for printed proofs; function values. -/
import Derived.Test.YtfamdelkpempgaaGreatW4
import Derived.Test.YtfamdelkpempgaaGreatW3
import Derived.HandedShaped
import Derived.Carry
import Derived.OpenShut
import Derived.JoinedOf
import Derived.ChangeCalls
import Derived.Test.YtfamdelkpempgaaGreatW0
set_option linter.unusedSimpArgs false
set_option linter.unusedVariables false
set_option linter.unusedSectionVars false
open Option renaming some→Ob,none→Oe
open Bool renaming false→Oc,true→Od
namespace Go.Ai.Sx
abbrev big:Nat:=18446744073709551616
theorem Of {p:Prop} (h:p:=by simp only [big]; omega):p:=h
theorem bnd {α β:Type} {m:Option α} {k:α->Option β} {y:β} (h:m.bind k=Ob y):∃ x,m=Ob x/\k x=Ob y:=Option.bind_eq_some_iff.1 h
theorem zCf {β:Type} {c:Bool} {a b:Option β} {y:β} (h:cond c a b=Ob y) (q:c=Od):a=Ob y:=by rw [q] at h; exact h
theorem zCg {β:Type} {c:Bool} {a b:Option β} {y:β} (h:cond c a b=Ob y) (q:c=Oc):b=Ob y:=by rw [q] at h; exact h
def alt {α β γ:Type} (f:α->γ) (g:β->γ):α⊕β->γ
 | .inl a=>f a
 | .inr b=>g b
abbrev XT (τ:Type):Type 1:=τ->zaC×(List zb->Sts)
def zAI {α β:Type} (f:XT α) (g:XT β):XT (α⊕β)
 | .inl a=>f a
 | .inr b=>g b
theorem zxg {α β γ:Type} {f:α->Option γ} {g:β->Option γ} {a:α} {y:γ} (h:alt f g (.inl a)=Ob y):f a=Ob y:=h
theorem zxh {α β γ:Type} {f:α->Option γ} {g:β->Option γ} {b:β} {y:γ} (h:alt f g (.inr b)=Ob y):g b=Ob y:=h
theorem gt1 {b:Bool} (h:b=Od):(b==Od)=Od:=by rw [h]; rfl
theorem gt0 {b:Bool} (h:b=Oc):(b==Od)=Oc:=by rw [h]; rfl
theorem gf1 {b:Bool} (h:b=Od):(b==Oc)=Oc:=by rw [h]; rfl
theorem gf0 {b:Bool} (h:b=Oc):(b==Oc)=Od:=by rw [h]; rfl
def zdi (k:IntKind) (a b:Int):Option Int:=if b=0 then Oe else Ob (k.wrap (a.tdiv b))
theorem zuR {k:IntKind} {a b n:Int} (h:zdi k a b=Ob n):Ar k a b .quo n:=by
 unfold zdi at h;split at h
 . cases h
 . cases h; exact .quo (by assumption)
def zq6 (a b:Int):Option Int:=if b=0 then Oe else Ob (a.tmod b)
theorem zuS {a b n:Int} (h:zq6 a b=Ob n):b≠0/\n=a.tmod b:=by
 unfold zq6 at h;split at h
 . cases h
 . cases h; exact ⟨by assumption,rfl⟩
def zjC (k:IntKind) (a b:Int):Option Int:=if 0<=b then Ob (a.fdiv (2 ^ (min b.toNat k.bits))) else Oe
theorem zuT {k:IntKind} {a b n:Int} (h:zjC k a b=Ob n):0<=b/\n=a.fdiv (2 ^ (min b.toNat k.bits)):=by
 unfold zjC at h;split at h
 . cases h; exact ⟨by assumption,rfl⟩
 . cases h
def slO {A:Type} (xs:List A) (i j:Int):Option (List A):=if 0<=i/\i<=j/\j<=zp xs then Ob ((xs.take j.toNat).drop i.toNat) else Oe
theorem zxi {A:Type} {xs ys:List A} {i j:Int} (h:slO xs i j=Ob ys):(0<=i/\i<=j/\j<=zp xs)/\ys=(xs.take j.toNat).drop i.toNat:=by
 unfold slO at h;split at h
 . cases h; exact ⟨by assumption,rfl⟩
 . cases h
section
variable {C:Ctx} {T:Tab} {d:Option (List Nat)} {ops rest:List Oper} {M:Env} {L:Own} {Q:zg->za->Prop} {P:zaC->zg->za->Prop} {o:Oper} {t:Nat} {z:Store} {fr:zg} {h:za}
theorem zA7 {c x y:Operand} {e:TE} {b:Bool} (hb:b=Od) (hw:Want ops M Od o.guard) (ho:o.op=.pick c x y) (hd:o.dst=Ob t) (hc:Opd M c (.val zaS b)) (hx:Opd M x e)
 (r:zr C T d ops rest ((t,e)::M) L Q):zr C T d ops (o::rest) M L Q:=by subst hb; exact zw4 hw ho hd hc hx r
theorem zA8 {c x y:Operand} {e:TE} {b:Bool} (hb:b=Oc) (hw:Want ops M Od o.guard) (ho:o.op=.pick c x y) (hd:o.dst=Ob t) (hc:Opd M c (.val zaS b)) (hy:Opd M y e)
 (r:zr C T d ops rest ((t,e)::M) L Q):zr C T d ops (o::rest) M L Q:=by subst hb; exact zw5 hw ho hd hc hy r
theorem zzK {u u':TypeId} {k:IntKind} {x y:Operand} {a b n:Int} (hn:zq6 a b=Ob n) (hw:Want ops M Od o.guard) (ho:o.op=.binOp .rem u x y u') (hd:o.dst=Ob t) (hx:Opd M x (.val (zi k) a)) (hy:Opd M y (.val (zi k) b))
 (r:zr C T d ops rest ((t,.val (zi k) n)::M) L Q):zr C T d ops (o::rest) M L Q:=by
 obtain ⟨h1,rfl⟩:=zuS hn; exact zAU hw ho hd hx hy h1 r
theorem zzL {u u':TypeId} {k k':IntKind} {x y:Operand} {a b n:Int} (hn:zjC k a b=Ob n) (hw:Want ops M Od o.guard) (ho:o.op=.binOp .shr u x y u') (hd:o.dst=Ob t) (hx:Opd M x (.val (zi k) a)) (hy:Opd M y (.val (zi k') b))
 (r:zr C T d ops rest ((t,.val (zi k) n)::M) L Q):zr C T d ops (o::rest) M L Q:=by
 obtain ⟨h1,rfl⟩:=zuT hn; exact zAV hw ho hd hx hy h1 r
inductive Bnd (M:Env):Option Operand->Int->Int->Prop where
 | n {i:Int}:Bnd M Oe i i
 | s {y:Operand} {k:IntKind} {i j:Int} (h:Opd M y (.val (zi k) i)):Bnd M (Ob y) j i
theorem zA9 {A:Type} {R:Rep A} {x:Operand} {lo hi:Option Operand} {xs ys:List A} {st et:TypeId} {i j:Int} (hsl:Sl T st et R) (hn:slO xs i j=Ob ys) (hw:Want ops M Od o.guard) (ho:o.op=.slice st x lo hi Oe) (hd:o.dst=Ob t)
    (hx:Opd M x (.val (ze R) xs)) (hlo:Bnd M lo 0 i) (hhi:Bnd M hi (zp xs) j) (r:zr C T d ops rest ((t,.val (ze R) ys)::M) L Q):zr C T d ops (o::rest) M L Q:=by
  obtain ⟨h1,rfl⟩:=zxi hn;cases hlo with
  | n=>
    cases hhi with
    | n=>exact zmw (kl:=.i64) (kh:=.i64) hsl h1 hw ho hd hx (.inl ⟨rfl,rfl⟩) (.inl ⟨rfl,rfl⟩) r
    | s h=>exact zmw (kl:=.i64) hsl h1 hw ho hd hx (.inl ⟨rfl,rfl⟩) (.inr ⟨_,rfl,h⟩) r
  | s h'=>
    cases hhi with
    | n=>exact zmw (kh:=.i64) hsl h1 hw ho hd hx (.inr ⟨_,rfl,h'⟩) (.inl ⟨rfl,rfl⟩) r
    | s h=>exact zmw hsl h1 hw ho hd hx (.inr ⟨_,rfl,h'⟩) (.inr ⟨_,rfl,h⟩) r
theorem zkx {id:Nat} {b:Code} {P2:zaC->zg->za->Prop} (e:P (.exit id)=λfr h=>Run T b fr h P2) (r:ze5 C T b M L P2):ze5 C T (.exit id) M L P:=λfr h s=>zpR (by rw [e]; exact r fr h s)
theorem zzM {b:Code} {P2:zaC->zg->za->Prop} (e:Q=λfr h=>Run T b fr h P2) (r:ze5 C T b M L P2):zr C T d ops [] M L Q:=zfp λfr h s=>by rw [e]; exact r fr h s
theorem zky {b:Code} {P2:zaC->zg->za->Prop} (e:P .normal=λfr h=>Run T b fr h P2) (r:ze5 C T b M L P2):ze5 C T .skip M L P:=λfr h s=>zpQ (by rw [e]; exact r fr h s)
theorem zjW {b:Code} {l:Nat} {P2:zaC->zg->za->Prop} (e:P .normal=λfr h=>Run T b fr h P2) (r:ze5 C T b M L P2):ze5 C T (.label l) M L P:=λfr h s=>zr3 (by rw [e]; exact r fr h s)
abbrev gh (g:List zb) (i:Nat):zb:=g.getD i .undef
def zzN (T:Tab) (z:Store) (c:zb) (as:List TE) (rs:List RE):Prop:=
 ∃ g pre post,c=.func (.func g) pre post/\T.consts.get g=Oe/\∀ z1 h vs,z.le z1->z1.Sub h->h.wm<=h.next->zG z1 as vs ->
  zk9 T g (pre++vs++post) h λr h'=>∃ us z',r=.ret (packed us)/\us.length=rs.length/\Quiet h h'/\z1.le z'/\z'.Sub h'/\(∀ b,b<h.next->z' b=z1 b)/\zG z' (tes rs us) us/\zg4 ⟨z1,h,[]⟩ z' h' (owns rs us)
theorem zzN.mono {z z':Store} {c:zb} {as:List TE} {rs:List RE} (hz:z.le z') (f:zzN T z c as rs):zzN T z' c as rs:=
 let ⟨g,pre,post,h1,h2,h3⟩:=f; ⟨g,pre,post,h1,h2,λz1 h vs hl=>h3 z1 h vs (hz.trans hl)⟩
def rFn (T:Tab) (X Y:Type) (ins:X->List TE) (outs:Y->List RE):Rep (X->Option Y):=
 ⟨1,Oc,λz cs f=>∃ c,cs=[c]/\(c.one=Od/\c.isAgg=Oc)/\∀ x y,f x=Ob y->zzN T z c (ins x) (outs y),λ_ _ _ h=>by obtain ⟨v,h,_⟩:=h; rw [h]; rfl,
  λ_ _ _ _ e h=>let ⟨c,h1,h2,h3⟩:=h; ⟨c,h1,h2,λx y q=>(h3 x y q).mono e⟩,λ_=>rfl,λ_ _ _ h=>by obtain ⟨v,h,e,_⟩:=h; rw [h]; simp [e.1]⟩
theorem zBa {T:Tab} {X Y:Type} {ins:X->List TE} {outs:Y->List RE} {z:Store}:(rFn T X Y ins outs).rel z [.nfz] λ_=>Oe:=⟨_,rfl,⟨rfl,rfl⟩,λ_ _ h=>(nomatch h)⟩
theorem zBb {X Y:Type} {ins:X->List TE} {outs:Y->List RE} {v:zb} {f:X->Option Y} (q:TV (rFn T X Y ins outs) z v f):∀ x y,f x=Ob y->zzN T z v (ins x) (outs y):=by
 obtain ⟨h1,h2⟩:=q;obtain ⟨w,h3,h4,h5⟩:=h1;cases v<;>simp_all [zb.isAgg,zb.cells,rFn]
theorem zxj {X Y:Type} {ins:X->List TE} {outs:Y->List RE} {c:Call} {p:Operand} {f:X->Option Y} {x:X} {y:Y} (hf:f x=Ob y) (hw:Want ops M Od o.guard) (ho:o.op=.call c) (hd:o.dst=Ob t) (hc:c.callee=.value p) (hx:Opd M p (.val (rFn T X Y ins outs) f)) (hvs:Opds M c.args.toList (ins x))
 (hq:RQ (outs y) L λes L'=>zr C T d ops rest ((t,zo4 es)::M) L' Q):zr C T d ops (o::rest) M L Q:=by
 refine ziz hw hd hq λz fr h s=>?_;obtain ⟨g,pre,post,e1,e2,e3⟩:=zBb (hx.val s.fr) x y hf;refine ⟨.func (.func g) pre post,c.args.toList.map fr.op,by rw [ho]; simp only [aop,zc4,hc,e1],λh1 hn hg hwm=>?_⟩;have hsub:z.Sub h1:=λb y hb=>by rw [hg,hn]; exact s.sub b y hb
 refine zdh e2 ?_;refine (e3 z h1 _ (.refl _) hsub hwm (hvs.ok s.fr)).mono λr h' ⟨us,z',e1,hl,q,hz,hs,hold,hok,hown⟩=>⟨us,z',e1,hl,q,hz,hs, ?_,hok,hown⟩;rw [← hn]; exact hold
theorem zee {es fs:List TE} {us vs:List zb} (h1:zG z es us) (h2:zG z fs vs):zG z (es++fs) (us++vs):=ze6.2 ⟨us,vs,rfl,h1,h2⟩
theorem zhM {X Y:Type} (ins:X->List TE) (outs:Y->List RE) {f:X->Option Y} {g:FuncId} {first captured:Array Operand} {ps cs:List TE} (hF:∀ x y,f x=Ob y->Fun T g (ps++ins x++cs) (outs y)) (hcst:T.consts.get g=Oe) (hw:Want ops M Od o.guard) (ho:o.op=.makeFunc (.func g) first captured) (hd:o.dst=Ob t) (h1:Opds M first.toList ps) (h2:Opds M captured.toList cs)
 (r:zr C T d ops rest ((t,.val (rFn T X Y ins outs) f)::M) L Q):zr C T d ops (o::rest) M L Q:=by
 refine zal (by rw [ho]; rfl) hw hd (λz fr h s=>?_) r;refine ⟨.func (.func g) (first.toList.map fr.op) (captured.toList.map fr.op),by rw [ho]; rfl, ?_⟩;simp only [TE.ok];refine ⟨⟨_,rfl,⟨rfl,rfl⟩,λx y q=>⟨g,_,_,rfl,hcst,λz1 h' vs hl hs hwm hok=>?_⟩⟩,rfl⟩;exact hF x y q z1 h' _ hs hwm (zee (zee (zeN hl (h1.ok s.fr)) hok) (zeN hl (h2.ok s.fr)))
theorem zhN {X Y:Type} {ins:X->List TE} {outs:Y->List RE} {f:X->Option Y} {g:FuncId} (hF:∀ x y,f x=Ob y->Fun T g (ins x) (outs y)) (hcst:T.consts.get g=Oe):∀ z,TV (rFn T X Y ins outs) z (.func (.func g) [] []) f:=λz=>
 ⟨⟨_,rfl,⟨rfl,rfl⟩,λx y q=>⟨g,[],[],rfl,hcst,λz1 h' vs hl hs hwm hok=>by rw [List.nil_append,List.append_nil]; exact hF x y q z1 h' _ hs hwm hok⟩⟩,rfl⟩
end
section
variable {C:Ctx} {T:Tab} {d:Option (List Nat)} {ops rest:List Oper} {M:Env} {L:Own} {Q:zg->za->Prop} {P:zaC->zg->za->Prop} {o:Oper} {t:Nat} {z:Store} {fr:zg} {h:za}
theorem zarr {A:Type} {R:Rep A} {x:A} {n:Nat} {c zc:List zb} (h:∀ z,R.rel z c x) (hz:copies n c=zc):∀ z,(zhG n R).rel z zc (List.replicate n x):=by
 intro z;subst hz;have hl:=R.len _ _ _ (h z);have hp:∀ i y,(List.replicate n x)[i]?=Ob y->R.rel z (((copies n c).drop (i*R.sz)).take R.sz) y:=by
  intro i y hi;have h1:=(List.getElem?_eq_some_iff.1 hi).1;rw [List.length_replicate] at h1;rw [List.getElem?_replicate,if_pos h1] at hi;cases hi;rw [← hl,zhg _ h1]; exact h z
 refine ⟨List.length_replicate,by rw [zeR,hl], ?_,hp⟩;rcases Nat.eq_zero_or_pos R.sz with q | q
 . have:copies n c=[]:=List.length_eq_zero_iff.1 (by rw [zeR,hl,q,Nat.mul_zero]);rw [this]; rfl
 . exact zi8 q (by rw [zeR,hl,List.length_replicate]) hp
theorem zxk {A:Type} {R:Rep A} {x y:Operand} {xs:List A} {at_ et:TypeId} {n:Nat} {k:IntKind} {i:Int} {a:A} (har:Ar1 T at_ et n R) (hi:idx xs i=Ob a) (hw:Want ops M Od o.guard) (ho:o.op=.index at_ x y) (hd:o.dst=Ob t)
    (hx:Opd M x (.val (zhG n R) xs)) (hy:Opd M y (.val (zi k) i)) (r:zr C T d ops rest ((t,.val R a)::M) L Q):zr C T d ops (o::rest) M L Q:=by
  refine zal (by rw [ho]; rfl) hw hd (λz fr h s=>?_) r;obtain ⟨h0,h1,h2,h3⟩:=zfq hi;have hv:=hx.val s.fr;have hc:=hv.agg;cases hq:fr.op x with
  | agg cs=>
    rw [hq] at hv;obtain ⟨e1,e2,e3,e4⟩:=hv.rel;simp only [zb.cells] at e2 e3 e4;have hb:=zeu (off:=0) (i:=i.toNat) (R:=R) (cells:=cs) (by rw [e1]; omega) h3;obtain ⟨u,h8,h9⟩:=zgd (cells:=cs) (off:=i.toNat*R.sz) har.sz har.agg J (e4 _ _ h3);refine ⟨u, ?_,by simp only [TE.ok]; exact h9⟩;rw [ho];simp only [aop,hq,hy.int s.fr,aindex,har.und,har.sz];rw [if_pos ⟨h0,by omega⟩,h8];rfl
  | _=>rw [hq] at hc; cases hc
theorem zmy {A:Type} {R:Rep A} {at_ et:TypeId} {n:Nat} {zc:List zb} {parts:Array (Nat×Operand)} {as:List A} (har:Ar1 T at_ et n R) (hz:zeJ T at_=Ob (.agg zc)) (hzl:zc.length=n*R.sz) (hw:Want ops M Od o.guard) (ho:o.op=.build at_ parts) (hd:o.dst=Ob t) (he:Elts M R 0 parts.toList as) (hn:as.length=n)
 (r:zr C T d ops rest ((t,.val (zhG n R) as)::M) L Q):zr C T d ops (o::rest) M L Q:=by
 refine zal (by rw [ho]; rfl) hw hd (λz fr h s=>?_) r;obtain ⟨cells,h3,h4,_,h5⟩:=zkt he s.fr har.pos zc (by rw [hzl,← hn]; simp);refine ⟨.agg cells, ?_, ?_⟩
 . rw [ho];simp only [aop,abuild,hz,har.und,har.sz,zb.cells,h3,zae,Option.map]
 . simp only [TE.ok];have hp:∀ i x,as[i]?=Ob x->R.rel z ((cells.drop (i*R.sz)).take R.sz) x:=λi x hx=>by have:=h5 i x hx; rwa [Nat.zero_add] at this
   exact ⟨⟨hn,by simp only [zb.cells]; rw [h4,hzl],zi8 (l:=cells) har.pos (by rw [h4,hzl,hn]) hp,hp⟩,rfl⟩
theorem zp1 {A:Type} {R:Rep A} {at_ et:TypeId} {n:Nat} {x:A} {zc:List zb} (har:Ar1 T at_ et n R) (hz:zeJ T at_=Ob (.agg zc)) (hx:∀ z,(zhG n R).rel z zc (List.replicate n x)) (hn:n<=maxLen) (hw:Want ops M Od o.guard) (ho:o.op=.alloc at_) (hd:o.dst=Ob t)
 (r:∀ b,zr C T d ops rest ((t,.raw (.ptr b 0))::M) ((.slice b 0 n R.sz (Ob n),.row R (List.replicate n x))::L) Q):zr C T d ops (o::rest) M L Q:=by
 refine zgc hw (nf (by rw [ho]; rfl)) λz fr h s=>?_;have ha:aop T fr.op h o.op=Ob (.val (.ptr h.next 0) (h.push (.arr zc Oc))):=by rw [ho]; simp only [aop,zgg,hz,zb.cells]
 refine ⟨_,_,z,_,_,ha,nfo (by rw [ho]; rfl),.refl _, ?_,r h.next⟩;rw [hd,zbl];refine (s.pushOwn (v:=.slice h.next 0 n R.sz (Ob n)) (ob:=.row R (List.replicate n x)) _ rfl ?_).set (by simp only [TE.ok]);obtain ⟨e1,e2,_,e4⟩:=hx z;refine ⟨by rw [List.length_replicate]; exact hn,.inr ⟨h.next,0,Ob n,zc,by rw [List.length_replicate],by rw [za.get_push,if_pos rfl],by rw [List.length_replicate,e2]; omega,λc hc=>by cases hc; rw [List.length_replicate,e2]; omega,λi y hy=>by rw [Nat.zero_add]; exact e4 i y hy⟩⟩
theorem zzO {A:Type} {R:Rep A} {x y:Operand} {xs:List A} {at_ et:TypeId} {n:Nat} {kk:IntKind} {i:Int} {a:A} {b:Nat} (k:Nat) (har:Ar1 T at_ et n R) (hk:L[k]?=Ob (.slice b 0 n R.sz (Ob n),.row R xs)) (hi:idx xs i=Ob a) (hw:Want ops M Od o.guard) (ho:o.op=.indexAddr at_ x y) (hd:o.dst=Ob t)
 (hx:Opd M x (.raw (.ptr b 0))) (hy:Opd M y (.val (zi kk) i)) (r:zr C T d ops rest ((t,.elt (.slice b 0 n R.sz (Ob n)) i.toNat 0)::M) L Q):zr C T d ops (o::rest) M L Q:=by
 refine zal (by rw [ho]; rfl) hw hd (λz fr h s=>?_) r;obtain ⟨h0,h1,h2,h3⟩:=zfq hi;have hr:=s.own.ok _ (List.mem_of_getElem? hk);simp only [Obj.ok] at hr;have hlen:xs.length=n:=by
  rcases hr.2 with ⟨q,_⟩ | ⟨b',off,cap,cells,q,_⟩
  . cases q
  . cases q; rfl
 refine ⟨.ptr b (0+i.toNat*R.sz), ?_,by simp only [TE.ok]; exact ⟨b,0,n,R.sz,Ob n,rfl,by simp⟩⟩;rw [ho];simp only [aop,hy.int s.fr,hx.raw s.fr,zdB,har.und,har.sz];rw [if_pos (by exact ⟨h0,by omega⟩)];rfl
theorem zso {A:Type} {R:Rep A} {x:Operand} {xs:List A} {at_ et:TypeId} {n:Nat} {b:Nat} (k:Nat) (hls:Listed d ops rest) (har:Ar1 T at_ et n R) (hk:L[k]?=Ob (.slice b 0 n R.sz (Ob n),.row R xs)) (hw:Want ops M Od o.guard) (ho:o.op=.load at_ x) (hd:o.dst=Ob t)
 (hx:Opd M x (.raw (.ptr b 0))) (r:zr C T d ops rest ((t,.val (zhG n R) xs)::M) L Q):zr C T d ops (o::rest) M L Q:=by
 refine zgh (.l hls (by rw [ho]; rfl) (by rw [ho]; rfl)) (λz fr h s=>by
  rw [show foot fr.op o=⟨zN (fr.op x),Oc,[],Oc⟩ by unfold foot; rw [ho]];exact ⟨λb' hb=>zit s hk rfl b' (by simpa [zN,hx.raw s.fr] using hb),λb hb=>(nomatch hb)⟩) hw hd (λz fr h s=>?_) r
 have hr:=s.own.ok _ (List.mem_of_getElem? hk);simp only [Obj.ok] at hr;rcases hr.2 with ⟨q,_⟩ | ⟨b',off,cap,cells,q,g1,g2,g3,g4⟩
 . cases q
 . cases q;have hcl:0+xs.length*R.sz<=cells.length:=g2;refine ⟨.agg ((cells.drop 0).take (xs.length*R.sz)), ?_, ?_⟩
   . rw [ho];simp only [aop,hx.raw s.fr,aload,g1,Go.Ai.apart,har.isagg,har.whole];rw [if_pos J];rfl
   . simp only [TE.ok];have hp:∀ i x,xs[i]?=Ob x->R.rel z ((((cells.drop 0).take (xs.length*R.sz)).drop (i*R.sz)).take R.sz) x:=by
      intro i x hi;have h6:=zeu (off:=0) (i:=i) (R:=R) (cells:=cells.take (xs.length*R.sz)) Oj hi;rw [List.drop_zero,List.drop_take,List.take_take,Nat.min_eq_left]
      . have:=g4 i x hi; rwa [Nat.zero_add] at this
      . simp at h6; omega
     have hl:((cells.drop 0).take (xs.length*R.sz)).length=xs.length*R.sz:=by simp; omega
     exact ⟨⟨rfl,hl,zi8 har.pos hl hp,hp⟩,rfl⟩
theorem zAJ {A:Type} {R:Rep A} {x y:Operand} {xs ys:List A} {at_ et:TypeId} {n:Nat} {b:Nat} (k:Nat) (har:Ar1 T at_ et n R) (hk:L[k]?=Ob (.slice b 0 n R.sz (Ob n),.row R xs)) (hw:Want ops M Od o.guard) (ho:o.op=.store at_ x y) (hd:o.dst=Oe)
 (hx:Opd M x (.raw (.ptr b 0))) (hy:Opd M y (.val (zhG n R) ys)) {L':Own} (hL:zeQ L k (.slice b 0 n R.sz (Ob n),.row R ys)=Ob L') (r:zr C T d ops rest M L' Q):zr C T d ops (o::rest) M L Q:=by
 refine ziy (.w (by rw [ho]; rfl) (λt a q=>by rw [ho] at q; cases q) (by rw [ho]; rfl) (λq=>by rw [ho] at q; cases q)) (λz fr h s=>by
  rw [show foot fr.op o=⟨[],Oc,zN (fr.op x),Oc⟩ by unfold foot; rw [ho]];exact ⟨λb hb=>(nomatch hb),λb' hb=>zet s hk rfl b' (by simpa [zN,hx.raw s.fr] using hb)⟩) hw hd (λz fr h s=>?_) r
 have hr:=s.own.ok _ (List.mem_of_getElem? hk);simp only [Obj.ok] at hr;have hv:=hy.val s.fr;obtain ⟨e1,e2,e3,e4⟩:=hv.rel;rcases hr.2 with ⟨q,_⟩ | ⟨b',off,cap,cells,q,g1,g2,g3,g4⟩
 . cases q
 . cases q;have hin:0+(fr.op y).cells.length<=cells.length:=J
   refine ⟨.tuple [],h.set b (.arr (splice cells 0 (fr.op y).cells) Oc), ?_,s.upd hk rfl rfl _ ?_ hL⟩
   . rw [ho];simp only [aop,hx.raw s.fr,astore,g1,har.whole];rw [if_pos (by exact ⟨e2,by omega,e3⟩)];rfl
   . simp only [Obj.ok];refine ⟨by rw [e1]; exact hr.1,.inr ⟨b,0,Ob xs.length,_,by rw [e1],by rw [za.get_set,if_pos rfl],by rw [zdG hin,e1]; exact g2,λc hc=>by rw [zdG hin,e1]; exact g3 c hc,λi x hi=>?_⟩⟩;have h6:=zeu (off:=0) (i:=i) (R:=R) (cells:=(fr.op y).cells) (by rw [e1]; omega) hi;have:((splice cells 0 (fr.op y).cells).drop (0+i*R.sz)).take R.sz=((fr.op y).cells.drop (i*R.sz)).take R.sz:=by
      apply List.ext_getElem?;intro j;unfold splice;simp only [List.getElem?_take,List.getElem?_drop,List.getElem?_append,List.length_append,List.length_take,List.take_zero,List.nil_append,Nat.zero_add];repeat' split
      all_goals (try omega)
      all_goals rfl
     rw [this]; exact e4 i x hi
theorem zgu {A:Type} {R:Rep A} {x y:Operand} {ys:List A} {es:List TE} {at_ et:TypeId} {n:Nat} {b:Nat} (k:Nat) (har:Ar1 T at_ et n R) (hk:L[k]?=Ob (.ptr b 0,.box es)) (hn:es.length=n*R.sz) (hm:n<=maxLen) (hw:Want ops M Od o.guard) (ho:o.op=.store at_ x y) (hd:o.dst=Oe)
 (hx:Opd M x (.raw (.ptr b 0))) (hy:Opd M y (.val (zhG n R) ys)) {L':Own} (hL:zeQ L k (.slice b 0 n R.sz (Ob n),.row R ys)=Ob L') (r:zr C T d ops rest M L' Q):zr C T d ops (o::rest) M L Q:=by
 refine ziy (.w (by rw [ho]; rfl) (λt a q=>by rw [ho] at q; cases q) (by rw [ho]; rfl) (λq=>by rw [ho] at q; cases q)) (λz fr h s=>by
  rw [show foot fr.op o=⟨[],Oc,zN (fr.op x),Oc⟩ by unfold foot; rw [ho]];exact ⟨λb hb=>(nomatch hb),λb' hb=>zet s hk rfl b' (by simpa [zN,hx.raw s.fr] using hb)⟩) hw hd (λz fr h s=>?_) r
 have hob:=s.own.ok _ (List.mem_of_getElem? hk);simp only [Obj.ok] at hob;obtain ⟨b',cells,q',g1,g2,g3⟩:=hob;cases q';have hv:=hy.val s.fr;obtain ⟨e1,e2,e3,e4⟩:=hv.rel;have hlc:=zcd g2;have e:splice cells 0 (fr.op y).cells=(fr.op y).cells:=by
  unfold splice;rw [List.take_zero,Nat.zero_add,List.drop_eq_nil_of_le J]; simp
 refine ⟨.tuple [],h.set b (.arr (fr.op y).cells Oc), ?_,s.upd hk rfl rfl _ ?_ hL⟩
 . rw [ho];simp only [aop,hx.raw s.fr,astore,g1,har.whole];rw [if_pos (by exact ⟨e2,by omega,e3⟩),e];rfl
 . simp only [Obj.ok];exact ⟨by rw [e1]; exact hm,.inr ⟨b,0,Ob n,_,by rw [e1],by rw [za.get_set,if_pos rfl],by rw [e1]; omega,λc hc=>by cases hc; rw [e1]; omega,λi x hi=>by rw [Nat.zero_add]; exact e4 i x hi⟩⟩
inductive zub (T:Tab):{A:Type}->Nat->Rep A->(A->A->Bool)->List Field->Nat->Prop where
 | n {n off:Nat}:zub T n zcS (fun _ _=>Od) [] off
 | i {n : Nat} {B : Type} {S : Rep B} {k : IntKind} {q : B → B → Bool} {f : Field} {fs : List Field} {off : Nat} (hn : f.name ≠ "_") (hu : T.und f.type = some (.int k)) (hf : f.offset = off) (r : zub T n S q fs (off + 1)) : zub T n (zI (zi k) S) (fun x y => x.1 == y.1 && q x.2 y.2) (f :: fs) off
 | b {n : Nat} {B : Type} {S : Rep B} {q : B → B → Bool} {f : Field} {fs : List Field} {off : Nat} (hn : f.name ≠ "_") (hu : T.und f.type = some .bool) (hf : f.offset = off) (r : zub T n S q fs (off + 1)) : zub T n (zI zaS S) (fun x y => x.1 == y.1 && q x.2 y.2) (f :: fs) off
 | s {n : Nat} {A B : Type} {R : Rep A} {S : Rep B} {q' : A → A → Bool} {q : B → B → Bool} {f : Field} {fs : List Field} {gs : Array Field} {off : Nat} (hn : f.name ≠ "_") (hu : T.und f.type = some (.struct gs)) (hst : ((T.types.get f.type).map (·.stood)).getD true = false) (hag : zea T f.type = some true) (hsz : szT T f.type = some R.sz) (hp : 0 < R.sz) (hf : f.offset = off) (r' : zub T n R q' gs.toList 0) (r : zub T (n + 1) S q fs (off + R.sz)) : zub T (n + 1) (zI R S) (fun x y => q' x.1 y.1 && q x.2 y.2) (f :: fs) off
theorem zsp {t:TypeId} {k:IntKind} (h:T.und t=Ob (.int k)):zea T t=Ob Oc:=by simp only [zea,h]
theorem zq7 {t:TypeId} (h:T.und t=Ob .bool):zea T t=Ob Oc:=by simp only [zea,h]
theorem zxl {dp n:Nat} {A:Type} {R:Rep A} {q:A->A->Bool} {fs:List Field} {off:Nat} (e:zub T n R q fs off) (hdp:n<=dp):∀ (cx cy:List zb) (x y:A),R.rel z (cx.drop off) x->R.rel z (cy.drop off) y ->
    zdp (λf=>match Go.Ai.apart T f.type cx f.offset,Go.Ai.apart T f.type cy f.offset with
        | some u,Ob v=>aeq T (dp+1) f.type u v
        | _,_=>Oe) fs=Ob (q x y):=by
  induction e generalizing dp with
  | n=>intros; rfl
  | @i n B S k q f fs off hn hu hf _ ih=>
    intro cx cy x y hx hy;subst hf;obtain ⟨c1,c2,e1,h1,h2⟩:=hx;obtain ⟨d1,d2,e2,g1,g2⟩:=hy;rw [h1.1] at e1;rw [g1.1] at e2;have hcx:cx[f.offset]?=Ob (.int k x.1):=by have:=congrArg (λl=>l[0]?) e1; simpa using this
    have hcy:cy[f.offset]?=Ob (.int k y.1):=by have:=congrArg (λl=>l[0]?) e2; simpa using this
    have ax:cx.drop (f.offset+1)=c2:=by have:=congrArg List.tail e1; simpa using this
    have ay:cy.drop (f.offset+1)=d2:=by have:=congrArg List.tail e2; simpa using this
    have:=ih hdp cx cy x.2 y.2 (by rw [ax]; exact h2) (by rw [ay]; exact g2);have hag:=zsp hu;simp only [zdp,if_pos hn,Go.Ai.apart,hag,hcx,hcy,aeq,hu,if_pos rfl] at this ⊢;cases hb:(x.1==y.1) with
    | true=>simp only [Bool.true_and]; exact this
    | false=>rfl
  | @b n B S q f fs off hn hu hf _ ih=>
    intro cx cy x y hx hy;subst hf;obtain ⟨c1,c2,e1,h1,h2⟩:=hx;obtain ⟨d1,d2,e2,g1,g2⟩:=hy;have h1:c1=[.bool x.1]:=h1;have g1:d1=[.bool y.1]:=g1;rw [h1] at e1;rw [g1] at e2;have hcx:cx[f.offset]?=Ob (.bool x.1):=by have:=congrArg (λl=>l[0]?) e1; simpa using this
    have hcy:cy[f.offset]?=Ob (.bool y.1):=by have:=congrArg (λl=>l[0]?) e2; simpa using this
    have ax:cx.drop (f.offset+1)=c2:=by have:=congrArg List.tail e1; simpa using this
    have ay:cy.drop (f.offset+1)=d2:=by have:=congrArg List.tail e2; simpa using this
    have:=ih hdp cx cy x.2 y.2 (by rw [ax]; exact h2) (by rw [ay]; exact g2);have hag:=zq7 hu;simp only [zdp,if_pos hn,Go.Ai.apart,hag,hcx,hcy,aeq,hu] at this ⊢;cases hb:(x.1==y.1) with
    | true=>simp only [Bool.true_and]; exact this
    | false=>rfl
  | @s n A B R S q' q f fs gs off hn hu hst hag hsz hp hf _ _ ih' ih=>
    intro cx cy x y hx hy;subst hf;obtain ⟨c1,c2,e1,h1,h2⟩:=hx;obtain ⟨d1,d2,e2,g1,g2⟩:=hy;obtain ⟨dp,rfl⟩:∃ d,dp=d+1:=⟨dp-1,by omega⟩;have lc:=R.len _ _ _ h1;have ld:=R.len _ _ _ g1;have tx:(cx.drop f.offset).take R.sz=c1:=by rw [e1,← lc]; simp
    have ty:(cy.drop f.offset).take R.sz=d1:=by rw [e2,← ld]; simp
    have ax:cx.drop (f.offset+R.sz)=c2:=by rw [← List.drop_drop,e1,← lc]; simp
    have ay:cy.drop (f.offset+R.sz)=d2:=by rw [← List.drop_drop,e2,← ld]; simp
    have lx:f.offset+R.sz<=cx.length:=by
      have:=congrArg List.length e1;rw [List.length_drop,List.length_append] at this;omega
    have ly:f.offset+R.sz<=cy.length:=by
      have:=congrArg List.length e2;rw [List.length_drop,List.length_append] at this;omega
    have i1:=ih' (dp:=dp) J c1 d1 x.1 y.1 (by simpa using h1) (by simpa using g1);have i2:=ih hdp cx cy x.2 y.2 (by rw [ax]; exact h2) (by rw [ay]; exact g2);have px:Go.Ai.apart T f.type cx f.offset=Ob (.agg c1):=by
      simp only [Go.Ai.apart,hag,hsz]; rw [if_pos lx,tx]
    have py:Go.Ai.apart T f.type cy f.offset=Ob (.agg d1):=by
      simp only [Go.Ai.apart,hag,hsz]; rw [if_pos ly,ty]
    have ae:aeq T (dp+1+1) f.type (.agg c1) (.agg d1)=Ob (q' x.1 y.1):=by
      simp only [aeq,hu,hst];exact i1
    simp only [zdp,if_pos hn,px,py,ae];cases hb:q' x.1 y.1 with
    | true=>simp only [Bool.true_and]; exact i2
    | false=>rfl
structure SEq (T:Tab) (t:TypeId) {A:Type} (R:Rep A) (q:A->A->Bool):Prop where
 ok:∃ fs,T.und t=Ob (.struct fs)/\zub T 4 R q fs.toList 0
 stood:((T.types.get t).map (·.stood)).getD Od=Oc
 eqg:((T.types.get t).map (·.eqg)).getD Od=Oc
theorem zxm {A:Type} {R:Rep A} {q:A->A->Bool} {u:TypeId} {v w:zb} {a b:A} (h:SEq T u R q) (hR:R.agg=Od) (hv:TV R z v a) (hw:TV R z w b):abin T .eql u v w=Ob (.bool (q a b))/\abin T .neq u v w=Ob (.bool (!q a b)):=by
 obtain ⟨fs,h1,h2⟩:=h.ok;have e1:=hv.agg;have e2:=hw.agg;rw [hR] at e1 e2;cases v with
 | agg cx=>
  cases w with
  | agg cy=>
   have hr1:=hv.rel;have hr2:=hw.rel;simp only [zb.cells] at hr1 hr2;have key:=zxl (dp:=6) h2 J cx cy a b (by simpa using hr1) (by simpa using hr2);have ae:aeq T 8 u (.agg cx) (.agg cy)=Ob (q a b):=by
    simp only [aeq,h1,h.stood];exact key
   constructor
   ·simp only [abin,aguard,h.eqg,ae]; rfl
   ·simp only [abin,aguard,h.eqg,ae]; rfl
  | _=>cases e2
 | _=>cases e1
theorem zBc {A:Type} {R:Rep A} {q:A->A->Bool} {u u':TypeId} {x y:Operand} {a b:A} (hs:SEq T u R q) (hR:R.agg=Od) (hw:Want ops M Od o.guard) (ho:o.op=.binOp .eql u x y u') (hd:o.dst=Ob t) (hx:Opd M x (.val R a)) (hy:Opd M y (.val R b))
 (r:zr C T d ops rest ((t,.val zaS (q a b))::M) L Q):zr C T d ops (o::rest) M L Q:=by
 refine zal (by rw [ho]; rfl) hw hd (λz fr h s=>⟨.bool (q a b), ?_,by simp only [TE.ok]; exact zfG⟩) r;rw [ho];simp only [aop,(zxm hs hR (hx.val s.fr) (hy.val s.fr)).1,zae,Option.map]
theorem zdU {A:Type} {R:Rep A} {xs:List A} {et:TypeId} {x y:Operand} {b q:Nat} {v:zb} {es:List TE} (k m:Nat) (hsz:szT T et=Ob 1) (hk:L[k]?=Ob (.ptr b 0,.box es)) (hm:L[m]?=Ob (v,.row R xs)) (hq:q<es.length) (hw:Want ops M Od o.guard) (ho:o.op=.store et x y) (hd:o.dst=Oe) (hx:Opd M x (.raw (.ptr b q))) (hy:Opd M y (.raw v))
 {L':Own} (hL:zeQ L k (.ptr b 0,.box (es.set q (.raw v)))=Ob L') (r:zr C T d ops rest M L' Q):zr C T d ops (o::rest) M L Q:=by
 refine ziy (.w (by rw [ho]; rfl) (λt a q=>by rw [ho] at q; cases q) (by rw [ho]; rfl) (λq=>by rw [ho] at q; cases q)) (λz fr h s=>by
  rw [show foot fr.op o=⟨[],Oc,zN (fr.op x),Oc⟩ by unfold foot; rw [ho]];exact ⟨λb hb=>(nomatch hb),λb' hb=>zet s hk rfl b' (by simpa [zN,hx.raw s.fr] using hb)⟩) hw hd (λz fr h s=>?_) r
 have hv1:v.one=Od:=by
  have hr:=s.own.ok _ (List.mem_of_getElem? hm);simp only [Obj.ok] at hr;rcases hr.2 with ⟨q,_⟩ | ⟨_,_,_,_,q,_⟩<;>rw [q]<;>rfl
 have hob:=s.own.ok _ (List.mem_of_getElem? hk);simp only [Obj.ok] at hob;obtain ⟨b',cells,q',h2,h3,h4⟩:=hob;cases q';have hv:=hy.raw s.fr;have hcs:v.cells=[v]:=by cases v<;>simp_all [zb.cells,zb.one]
 have hlt:q<cells.length:=by rw [zcd h3]; exact hq
 refine ⟨.tuple [],h.set b (.arr (cells.set q v) Oc), ?_,s.upd hk rfl rfl _ ?_ hL⟩
 . rw [ho];simp only [aop,hx.raw s.fr,hv,astore,h2,hsz,hcs,List.length_singleton];rw [if_pos (by exact ⟨by trivial,by omega,by simp [hv1]⟩),zlL hlt];rfl
 . refine ⟨b,_,rfl,by rw [za.get_set,if_pos rfl],zhh h3 (by simp only [TE.ok]), ?_⟩;rw [List.all_eq_true] at h4 ⊢;intro c hc;rcases List.mem_or_eq_of_mem_set hc with q | rfl
   . exact h4 c q
   . exact hv1
theorem zeS {A:Type} {R:Rep A} {xs:List A} {v:zb} {b q:Nat} {es:List TE} (k m:Nat) (ts:List Nat) {L' L'':Own} (hk:L[k]?=Ob (v,.row R xs)) (hL:zcW L k=Ob L') (hm:L'[m]?=Ob (.ptr b 0,.box es)) (hq:es[q]?=Ob (.raw v)) (hL':zeQ L' m (.ptr b 0,.box (es.set q (.val (ze R) xs)))=Ob L'') (hts:zjB M v ts) :
    ∀ z fr h,StZ C M L z fr h->∃ z',z.le z'/\StZ C (zgS ts (.val (ze R) xs) M) L'' z' fr h:=by
  intro z fr h s;obtain ⟨z',hz,s',hr⟩:=s.freeze hk hL;have hval:TE.ok z' (.val (ze R) xs) v:=by simp only [TE.ok]; exact zbo hr
  have hob:=s'.own.ok _ (List.mem_of_getElem? hm);simp only [Obj.ok] at hob;obtain ⟨b',cells,q',g1,g2,g3⟩:=hob;cases q';obtain ⟨c,hc1,hc2⟩:=zjT g2 hq;simp only [TE.ok] at hc2;subst hc2;have hset:cells.set q c=cells:=by
    apply List.ext_getElem?;intro i;rw [List.getElem?_set];split
    · rename_i e; subst e;rw [if_pos (List.getElem?_eq_some_iff.1 hc1).1,hc1]
    · rfl
  have hobj:(Obj.box (es.set q (.val (ze R) xs))).ok z' h (.ptr b 0):=by
    refine ⟨b,cells,rfl,g1, ?_,g3⟩;rw [← hset]; exact zhh g2 hval
  obtain ⟨rfl,hlt⟩:=ziu hL';have hmem:∀ p∈L'.set m (.ptr b 0,.box (es.set q (.val (ze R) xs))),p=(.ptr b 0,.box (es.set q (.val (ze R) xs)))\/p∈L':=by
    intro p hp;rcases List.mem_or_eq_of_mem_set hp with e | e
    · exact .inr e
    · exact .inl e
  have hb0:blks (L'.set m (.ptr b 0,.box (es.set q (.val (ze R) xs))))=blks L':=by
    have key:∀ (L:Own) (m:Nat),L[m]?=Ob (.ptr b 0,.box es)->blks (L.set m (.ptr b 0,.box (es.set q (.val (ze R) xs))))=blks L:=by
      intro L;induction L with
      | nil=>intro m h; simp at h
      | cons p L ih=>
        intro m h;cases m with
        | zero=>simp at h; subst h; rw [List.set_cons_zero,zP,zP]; rfl
        | succ m=>rw [List.set_cons_succ,zP,zP,ih m (by simpa using h)]
    exact key L' m hm
  refine ⟨z',hz,{ s' with fr:=zfH hval hts s'.fr,own:=⟨λp hp=>?_,λp hp=>?_,by rw [hb0]; exact s'.own.nodup⟩ }⟩
  · rcases hmem p hp with rfl | hp
    · exact hobj
    · exact s'.own.ok p hp
  · rcases hmem p hp with rfl | hp
    · intro c' hc';exact s'.own.out _ (List.mem_of_getElem? hm) c' (by simpa [zfl,zhy] using hc')
    · exact s'.own.out p hp
end
def zh1 (T:Tab) (g:FuncId) (as:List TE) (L0:Own) (rs:List RE) (L1:List zb->Own):Prop:=
 ∀ z h vs,z.Sub h->h.wm<=h.next->zG z as vs->zg4 ⟨z,h,blks L0⟩ z h L0->zk9 T g vs h λr h'=>∃ us z' γ,r=.ret (packed us)/\us.length=rs.length/\Chg ⟨z,h,blks L0⟩ h'/\z.le z'/\z'.Sub h'/\(∀ b,b<h.next->b∉blks L0->z' b=z b)/\zG z' (tes rs us) us/\zg4 ⟨z,h,blks L0⟩ z' h' (owns rs us++L1 γ)
section
variable {C:Ctx} {T:Tab} {d:Option (List Nat)} {ops rest:List Oper} {M:Env} {L:Own} {Q:zg->za->Prop} {P:zaC->zg->za->Prop} {o:Oper} {t:Nat} {z:Store} {fr:zg} {h:za}
theorem zkz {ks js:List Nat} (hn:(ks++js).Nodup) (hb:(blks L).Nodup) {p:zb×Obj} {b:Nat} (hp:p∈picks L js) (h1:b∈zfl p):b∉blks (picks L ks):=by
 intro q;obtain ⟨p',hp',h2⟩:=zbF.1 q;obtain ⟨i,i1,i2⟩:=zdS hp;obtain ⟨j,j1,j2⟩:=zdS hp';have:=zdE hb i2 j2 h1 h2;subst this;exact (List.nodup_append.1 hn).2.2 i j1 i i1 rfl
theorem zbH {ks:List Nat} {p:zb×Obj} (hp:p∈picks L ks):p∈L:=by
 obtain ⟨i,_,h2⟩:=zdS hp;exact List.mem_of_getElem? h2
theorem StZ.afterM (s:StZ C M L z fr h) {ks js:List Nat} (hn:(ks++js).Nodup) {h':za} {z':Store} {O:Own} (q:Chg ⟨z,h,blks (picks L ks)⟩ h') (hz:z.le z') (hs:z'.Sub h') (hold:∀ b,b<h.next->b∉blks (picks L ks)->z' b=z b) (ho:zg4 ⟨z,h,blks (picks L ks)⟩ z' h' O):StZ C M (O++picks L js) z' fr h':=by
 have inn:∀ b,b∈blks (picks L ks)->b<h.next/\(C.h0.next<=b\/b∈C.B0):=λb hb=>by
  obtain ⟨p,hp,h1⟩:=zbF.1 hb;obtain ⟨_,o2,o3⟩:=s.own.out p (zbH hp) b h1;exact ⟨o2,o3⟩
 have notin:∀ b,b<C.h0.next->b∉C.B0->b∉blks (picks L ks):=λb hb hB hq=>by
  rcases (inn b hq).2 with q1 | q1
  . omega
  . exact hB q1
 have qn:h.next<=h'.next:=q.next;have sn:=s.chg.next;refine { zle:=s.zle.trans hz,sub:=hs,old:=λb hb hB=>?_,fr:=s.fr.mono hz,own:=⟨?_, ?_, ?_⟩,chg:=⟨Nat.le_trans sn qn,λb hb hB=>?_,λm m1 m2 m3=>?_,q.ok⟩ }
 . rw [hold b J (notin b hb hB)]; exact s.old b hb hB
 . intro p hp;rcases List.mem_append.1 hp with hp | hp
   . exact ho.ok p hp
   . exact Obj.ok_mono hz (λb hb=>q.same b (s.own.out p (zbH hp) b hb).2.1 (zkz hn s.own.nodup hp hb)) (s.own.ok p (zbH hp))
 . intro p hp b hb;rcases List.mem_append.1 hp with hp | hp
   . obtain ⟨o1,o2,o3⟩:=ho.out p hp b hb;refine ⟨o1,o2, ?_⟩;rcases o3 with q1 | q1
     . exact .inl (Nat.le_trans sn q1)
     . exact (inn b q1).2
   . obtain ⟨o1,o2,o3⟩:=s.own.out p (zbH hp) b hb;exact ⟨by rw [hold b o2 (zkz hn s.own.nodup hp hb)]; exact o1,Nat.lt_of_lt_of_le o2 qn,o3⟩
 . rw [show blks (O++picks L js)=blks O++blks (picks L js) by simp [blks]];refine List.nodup_append.2 ⟨ho.nodup,zcM s.own.nodup (List.nodup_append.1 hn).2.1,λa ha b hb e=>?_⟩;subst e;obtain ⟨p,hp,h1⟩:=zbF.1 ha;obtain ⟨p',hp',h2⟩:=zbF.1 hb;rcases (ho.out p hp a h1).2.2 with q1 | q1
   . have q1:h.next<=a:=q1;have:=(s.own.out p' (zbH hp') a h2).2.1;omega
   . exact zkz hn s.own.nodup hp' h2 q1
 . have:h'.get b=h.get b:=q.same b (Nat.lt_of_lt_of_le hb sn) (notin b hb hB);rw [this]; exact s.chg.same b hb hB
 . refine q.wm m (s.chg.wm m m1 m2 m3) (Nat.le_trans m2 sn) λb hb=>?_;rcases (inn b hb).2 with q1 | q1
   . omega
   . exact m3 b q1
theorem StZ.lent (s:StZ C M L z fr h) {ks:List Nat} (hn:ks.Nodup):zg4 ⟨z,h,blks (picks L ks)⟩ z h (picks L ks):=
 ⟨λp hp=>s.own.ok p (zbH hp),λp hp b hb=>⟨(s.own.out p (zbH hp) b hb).1,(s.own.out p (zbH hp) b hb).2.1,.inr (zbF.2 ⟨p,hp,hb⟩)⟩,zcM s.own.nodup hn⟩
theorem zBd {c:Call} {x:Operand} {g:FuncId} {pre post:List zb} {as:List TE} {rs:List RE} {L0 Lr:Own} {L1:List zb->Own} (ks js:List Nat) (hf:zh1 T g as L0 rs L1) (h0:picks L ks=L0) (hr:picks L js=Lr) (hn:(ks++js).Nodup) (hcst:T.consts.get g=Oe) (hw:Want ops M Od o.guard) (ho:o.op=.call c) (hd:o.dst=Ob t) (hc:c.callee=.value x) (hx:Opd M x (.raw (.func (.func g) [] []))) (hvs:Opds M c.args.toList as)
 (hq:∀ γ,RQ rs (L1 γ++Lr) λes L'=>zr C T Oe ops rest ((t,zo4 es)::M) L' Q):zr C T Oe ops (o::rest) M L Q:=by
 subst h0 hr;intro fr h ⟨z,s⟩;have ha:aop T fr.op h o.op=Ob (.call (.func (.func g) [] []) (c.args.toList.map fr.op)):=by rw [ho]; simp only [aop,zc4,hc,hx.raw s.fr]
 simp only [wX,hw.ok s.fr,ha,hd,zbl];refine zdh hcst ?_;rw [List.nil_append,List.append_nil];refine (hf z h _ s.sub s.chg.ok (hvs.ok s.fr) (s.lent (List.nodup_append.1 hn).1)).mono λr h' ⟨us,z',γ,e1,hl,q,hz,hs,hold,hok,hown⟩=>⟨packed us,e1, ?_⟩;have s':=s.afterM (js:=js) hn q hz hs hold hown;rw [List.append_assoc] at s';exact (hq γ).at hl _ _ ⟨z',s'.set (zkv hl hok)⟩
def zB2 (C:Ctx) (T:Tab) (res:List ResultVar) (rs:List RE) (L1:List zb->Own) (e:zaC) (fr:zg) (h:za):Prop:=
 (e=.normal\/e=.ret)/\∃ us z γ,aresults T res fr h=Ob us/\us.length=rs.length/\C.z0.le z/\z.Sub h/\(∀ b,b<C.h0.next->b∉C.B0->z b=C.z0 b)/\zG z (tes rs us) us/\zg4 C z h (owns rs us++L1 γ)/\Chg C h
theorem zgv {L:Own}:∀ {is js:List Nat},picks L (is++js)=picks L is++picks L js
 | [],_=>rfl
 | i::is,js=>by
  simp only [List.cons_append,picks];cases L[i]? with
  | none=>exact zgv
  | some p=>simp only [List.cons_append,zgv]
theorem za7 {e:zaC} {res:List ResultVar} {rs:List RE} {L1:List zb->Own} {ks:List Nat} (js:List Nat) (γ:List zb) (he:e=.normal\/e=.ret) (q:Rets T M L res rs ks) (hL:picks L js=L1 γ) (hn:(ks++js).Nodup):∀ fr h,St C M L fr h->zB2 C T res rs L1 e fr h:=by
 intro fr h ⟨z,s⟩;obtain ⟨us,h1,h2,h3,h4⟩:=q.ok s;refine ⟨he,us,z,γ,h1,h2,s.zle,s.sub,s.old,h3, ?_,s.chg⟩;rw [h4,← hL,← zgv];exact ⟨λp hp=>s.own.ok p (zbH hp),λp hp=>s.own.out p (zbH hp),zcM s.own.nodup hn⟩
theorem zeT {g:FuncId} {F:Func} {c:Code} {as:List TE} {rs:List RE} {L0:Own} {L1:List zb->Own} (hF:T.funcs.get g=Ob F) (hb:F.body=Ob c) (hn:Nat.blt F.ntmps as.length=Oc) (run:∀ C,ze5 C T c (entry 0 as) L0 (zB2 C T F.results.toList rs L1)):zh1 T g as L0 rs L1:=by
 intro z h vs hsub hwm hok hL;refine zmn hF hb (by rw [zcd hok]; exact hn) ?_;have s0:StZ ⟨z,h,blks L0⟩ (entry 0 as) L0 z (zbk 0 vs .leaf) h:=
  { zle:=.refl _,sub:=hsub,old:=λ_ _ _=>rfl,fr:=zjV hok,own:=hL,chg:=⟨Nat.le_refl _,λ_ _ _=>rfl,λ_ m1 _ _=>m1,hwm⟩ }
 refine (run ⟨z,h,blks L0⟩ _ _ ⟨z,s0⟩).mono λe fr h' ⟨he,us,z',γ,h1,h2,h3,h4,h5,h6,h7,h8⟩=>⟨he,us,h1,us,z',γ,rfl,h2,h8,h3,h4,λb hb=>h5 b hb,h6,h7⟩
def zq8 (g:FuncId) (ps cs:List TE):Rep Unit:=
 ⟨1,Oc,λz xs _=>∃ us vs,xs=[.func (.func g) us vs]/\zG z ps us/\zG z cs vs,λ_ _ _ h=>by obtain ⟨u,v,h,_⟩:=h; rw [h]; rfl,
  λ_ _ _ _ e h=>let ⟨u,v,h1,h2,h3⟩:=h; ⟨u,v,h1,zeN e h2,zeN e h3⟩,λ_=>rfl,λ_ _ _ h=>by obtain ⟨u,v,h,_⟩:=h; rw [h]; rfl⟩
theorem zsq {g:FuncId} {ps cs:List TE} {v:zb} {x:Unit} (q:TV (zq8 g ps cs) z v x):∃ us vs,v=.func (.func g) us vs/\zG z ps us/\zG z cs vs:=by
 obtain ⟨⟨us,vs,h1,h2,h3⟩,h4⟩:=q;refine ⟨us,vs, ?_,h2,h3⟩;cases v<;>simp_all [zb.isAgg,zb.cells,zq8]
theorem zmz {g:FuncId} {first captured:Array Operand} {ps cs:List TE} (hw:Want ops M Od o.guard) (ho:o.op=.makeFunc (.func g) first captured) (hd:o.dst=Ob t) (h1:Opds M first.toList ps) (h2:Opds M captured.toList cs)
 (r:zr C T d ops rest ((t,.val (zq8 g ps cs) ())::M) L Q):zr C T d ops (o::rest) M L Q:=by
 refine zal (by rw [ho]; rfl) hw hd (λz fr h s=>?_) r;refine ⟨.func (.func g) (first.toList.map fr.op) (captured.toList.map fr.op),by rw [ho]; rfl, ?_⟩;simp only [TE.ok];exact ⟨⟨_,_,rfl,h1.ok s.fr,h2.ok s.fr⟩,rfl⟩
end
def zjD:Rep zb:=⟨1,Oc,λ_ cs x=>cs=[x]/\x.one=Od/\x.isAgg=Oc,λ_ _ _ h=>by rw [h.1]; rfl,λ_ _ _ _ _ h=>h,λ_=>rfl,λ_ _ _ h=>by rw [h.1]; simp [h.2.1]⟩
theorem zsr {z:Store} {v x:zb} (q:TV zjD z v x):v=x:=by
 have h1:=q.agg;have h2:=q.rel;cases v<;>simp_all [zb.isAgg,zb.cells,zjD]
theorem zq9 {A:Type} {R:Rep A} {xs:List A} {z z0:Store} {h:za} {v:zb} (q:(Obj.row R xs).ok z0 h v):TV zjD z v v:=by
 simp only [Obj.ok] at q;rcases q.2 with ⟨rfl,_⟩ | ⟨b,off,cap,cells,rfl,_⟩<;>exact ⟨⟨rfl,rfl,rfl⟩,rfl⟩
section
variable {C:Ctx} {T:Tab} {d:Option (List Nat)} {ops rest:List Oper} {M:Env} {L:Own} {Q:zg->za->Prop} {P:zaC->zg->za->Prop} {o:Oper} {t:Nat} {z:Store} {fr:zg} {h:za}
theorem zzP {F:Prop} (q:∀ z fr h,StZ C M L z fr h->F) (r:F->zr C T d ops rest M L Q):zr C T d ops rest M L Q:=by
 cases d with
 | none=>exact λfr h ⟨z,s⟩=>r (q z fr h s) fr h ⟨z,s⟩
 | some ol=>exact λz fr h i done s hr hok hd=>r (q z fr h s) z fr h i done s hr hok hd
theorem StZ.repack (s:StZ C M L z fr h) {L':Own} (hp:(blks L').Perm (blks L)) (hk:∀ p∈L',p.2.ok z h p.1):StZ C M L' z fr h:=by
 refine { s with own:=⟨hk,λp hp' b hb=>?_,hp.nodup_iff.2 s.own.nodup⟩ };have h1:=hp.mem_iff.1 (zbF.2 ⟨p,hp',hb⟩);obtain ⟨q,hq,hb'⟩:=zbF.1 h1;exact s.own.out q hq b hb'
theorem zgw {L L':Own} (hp:L.Perm L'):(blks L).Perm (blks L'):=List.Perm.flatMap_right _ hp
theorem set_same.{u} {α:Type u} {l:List α} {i:Nat} {a:α} (h:l[i]?=Ob a):l.set i a=l:=by
 apply List.ext_getElem?;intro j;rw [List.getElem?_set];split
 . rename_i q;subst q;rw [if_pos (List.getElem?_eq_some_iff.1 h).1]; exact h.symm
 . rfl
theorem zi9 {e:TE} {n:Nat} (hf:ziM z M fr) (h:e.ok z (fr.ev n)):ziM z ((n,e)::M) fr:=by
 intro t e' q;simp only [look] at q;cases hb:Nat.beq n t with
 | true=>
  rw [hb] at q;cases q;have:=Nat.eq_of_beq_eq_true hb;subst this;exact h
 | false=>rw [hb] at q; exact hf t e' q
theorem zuU {A:Type} {R:Rep A} {xs:List A} {v:zb} {n:Nat} (k:Nat) (hk:L[k]?=Ob (v,.row R xs)) (hl:look M n=Ob (.raw v)):∀ z fr h,StZ C M L z fr h->∃ z',z.le z'/\StZ C ((n,.val zjD v)::M) L z' fr h:=λz fr h s=>by
 have h1:=s.fr _ _ hl;simp only [TE.ok] at h1;exact ⟨z,.refl _,{ s with fr:=zi9 s.fr (by simp only [TE.ok]; rw [h1]; exact zq9 (s.own.ok _ (List.mem_of_getElem? hk))) }⟩
def untup:zb->List zb
 | .tuple l=>l
 | _=>[]
end
def zzQ (T:Tab) (f:zb) (as:List TE) (L0:Own) (rs:List RE) (L1:List zb->Own):Prop:=
 ∀ z h vs,z.Sub h->h.wm<=h.next->zG z as vs->zg4 ⟨z,h,blks L0⟩ z h L0->zjH T f vs h λr h'=>∃ us z' γ,r=.ret (packed us)/\us.length=rs.length/\Chg ⟨z,h,blks L0⟩ h'/\z.le z'/\z'.Sub h'/\(∀ b,b<h.next->b∉blks L0->z' b=z b)/\zG z' (tes rs us) us/\zg4 ⟨z,h,blks L0⟩ z' h' (owns rs us++L1 γ)
structure zra (T:Tab) (yv:zb) {X σ τ:Type} (ins:X->List TE) (step:σ->X->Option (σ⊕τ)) (K:σ⊕τ->List zb->Obj):Prop where
 call:∀ s γ x r,step s x=Ob r->zzQ T yv (ins x) [(yv,K (.inl s) γ)] [.val zaS r.isLeft] λγ'=>[(yv,K r γ')]
 one:yv.one=Od
 agg:yv.isAgg=Oc
def zBe (ops:List Oper) (ol:List Nat) (i:Nat):Bool:=match zcA ops i with
 | b=>(List.range i).all λp=>b.contains p||(match ops[p]? with | some q=>zi3 q.op&&!ol.contains p | none=>Oc)
def zjX (d:Option (List Nat)) (ops rest:List Oper):Prop:=∀ ol,d=Ob ol->zBe ops ol (ops.length-(rest.length+1))=Od/\rest.all (λo=>zdk o.op)=Od
section
variable {C:Ctx} {T:Tab} {d:Option (List Nat)} {ops rest:List Oper} {M:Env} {L:Own} {Q:zg->za->Prop} {P:zaC->zg->za->Prop} {o:Oper} {t:Nat} {z:Store} {fr:zg} {h:za}
theorem zrb {a:Foot}:a.apart ⟨[],Oc,[],Oc⟩=Od:=by
 unfold Foot.apart disj;simp
theorem znT {i:Nat} {done:List (Nat×Foot)}:zcL ops i ⟨[],Oc,[],Oc⟩ done=Od:=by
 unfold zcL;rw [if_pos (List.all_eq_true.2 λp _=>zrb)]
theorem zo6 {a:Foot}:(⟨[],Oc,[],Oc⟩:Foot).apart a=Od:=by
 unfold Foot.apart disj;simp
theorem zmA {ol:List Nat} {i:Nat} {f:Foot} {done:List (Nat×Foot)} (hc:zBe ops ol i=Od) (hd:zlI ops ol z i fr h done):zcL ops i f done=Od:=by
 unfold zcL;split
 . rfl
 . refine List.all_eq_true.2 λp hp=>?_;obtain ⟨h1,h2,h3,h4,h5,h6⟩:=hd.1 p hp;unfold zBe at hc;have:=List.all_eq_true.1 hc p.1 (List.mem_range.2 h1);rw [Bool.or_eq_true] at this;rcases this with q | q
   . rw [q,Bool.or_true]
   . split at q
     . rename_i o ho;rw [Bool.and_eq_true] at q;have hq:zeO ol p.1 o.op=Od:=by
        unfold zeO;have:=q.1;unfold zi3 at this;rw [Bool.or_eq_true] at this;rcases this with k | k
        . rw [k]; rfl
        . rw [k,q.2]; simp
       obtain ⟨k1,k2,_,k4⟩:=h6 o ho hq;have e:p.2=⟨[],Oc,[],Oc⟩:=by
        cases hp2:p.2 with
        | mk rd rall wr wall=>
         rw [hp2] at k1 k2 k4 h2;simp only at k1 k2 k4 h2;rw [k1,k2,h2,k4 q.1]
       rw [e,zo6,Bool.true_or]
     . cases q
theorem zh2:∀ {rest:List Oper} {i:Nat} {done:List (Nat×Foot)} {fr:zg} {h:za},rest.all (λo=>zdk o.op)=Od->h.wm<=h.next->wX T ops rest fr h Q->Draw T ops rest i done fr h Q
 | [],_,_,_,_,_,_,w=>zpT w
 | o::rest,i,done,fr,h,hno,hwm,w=>by
  rw [List.all_cons,Bool.and_eq_true] at hno;simp only [wX] at w;split at w
  . rename_i hw;split at w
    . rename_i v h' ha;have hk:=zhc ha;exact zsa hw ha hwm (zmt _ hno.1) znT (zh2 hno.2 (Nat.le_trans hk.2.1 (Nat.le_trans hwm hk.1)) w)
    . rename_i f vs ha;obtain ⟨c,fo,ho,hc,_⟩:=zc5 ha;have:=hno.1;rw [ho] at this;simp only [zdk,hc] at this;cases this
    . exact w.elim
  . rename_i hw; exact znF hw (zh2 hno.2 hwm w)
  . exact w.elim
theorem zrc {i:Nat} {done:List (Nat×Foot)} {f:zb} {vs:List zb} (hw:awanted ops fr o.guard=Ob Od) (ha:aop T fr.op h o.op=Ob (.call f vs))
 (hk:∀ w,zcL ops i ⟨[],Od,[],w⟩ done=Od)
 (r:zjH T f vs (lay h h.next) λr h1=>∃ v,r=.ret v/\∀ w,Draw T ops rest (i+1) ((i,⟨[],Od,[],w⟩)::done) (putDst fr o.dst v) (lay h1 (min h.wm h1.wm)) Q):Draw T ops (o::rest) i done fr h Q:=by
 obtain ⟨n,r,h1,h2,v,rfl,q⟩:=r;obtain ⟨m,fr',h3,h4,h5⟩:=q (!(Nat.ble h.next h1.wm));have ha':aop T fr.op { h with wm:=h.next } o.op=Ob (.call f vs):=by
  obtain ⟨c,fo,ho,hc,e1,e2⟩:=zc5 ha;rw [ho];simp only [aop,zc4,hc,e1,e2]
 have e:zf9 (foot fr.op o) h h1=⟨[],Od,[],!(Nat.ble h.next h1.wm)⟩:=by rw [zim ha]; rfl
 refine ⟨max n m,fr',h3, ?_,h5⟩;have c1:=zgN (T:=T) (zd5 (Nat.le_max_left n m)) _ _ _ _ h2;have c2:=zin (T:=T) (zgN (zd5 (Nat.le_max_right n m))) _ _ _ _ _ _ h4;have c1:acall T (aexec T (max n m)) f vs { h with wm:=h.next }=Ob (.ret v,h1):=c1;simp only [adraw,hw,astep,ha',c1,e,hk,cond_true];exact c2
theorem zlM {rs:List RE} {L1:List zb->Own} (ks js:List Nat) (hn:(ks++js).Nodup) (hser:zjX d ops rest) (hw:Want ops M Od o.guard) (hd:o.dst=Ob t)
    (H:∀ z fr h,StZ C M L z fr h->∃ f vs,aop T fr.op h o.op=Ob (.call f vs)/\∀ h,z.Sub h->h.wm<=h.next->zg4 ⟨z,h,blks (picks L ks)⟩ z h (picks L ks)->zjH T f vs h λr h'=>∃ us z' γ,r=.ret (packed us)/\us.length=rs.length/\Chg ⟨z,h,blks (picks L ks)⟩ h'/\z.le z'/\z'.Sub h'/\(∀ b,b<h.next->b∉blks (picks L ks)->z' b=z b)/\zG z' (tes rs us) us/\zg4 ⟨z,h,blks (picks L ks)⟩ z' h' (owns rs us++L1 γ))
    (hq:∀ γ,RQ rs (L1 γ++picks L js) λes L'=>zr C T Oe ops rest ((t,zo4 es)::M) L' Q):zr C T d ops (o::rest) M L Q:=by
  cases d with
  | none=>
    intro fr h ⟨z,s⟩;obtain ⟨f,vs,ha,hf⟩:=H z fr h s;simp only [wX,hw.ok s.fr,ha,hd,zbl];refine (hf h s.sub s.chg.ok (s.lent (List.nodup_append.1 hn).1)).mono λr h' ⟨us,z',γ,e1,hl,q,hz,hs,hold,hok,hown⟩=>⟨packed us,e1, ?_⟩;have s':=s.afterM (js:=js) hn q hz hs hold hown;rw [List.append_assoc] at s';exact (hq γ).at hl _ _ ⟨z',s'.set (zkv hl hok)⟩
  | some ol=>
    intro z fr h i done s hr hok hdn;obtain ⟨f,vs,ha,hf⟩:=H z fr h s;have hi:ops[i]?=Ob o:=by have:=congrArg (λl=>l[0]?) hr; simpa using this
    have hlt:i<ops.length:=(List.getElem?_eq_some_iff.1 hi).1;have hil:i=ops.length-(rest.length+1):=by
      have:=congrArg List.length hr;rw [List.length_drop,List.length_cons] at this;omega
    obtain ⟨hc,hno⟩:=hser ol rfl;rw [← hil] at hc;have sl:StZ C M L z fr (lay h h.next):=s.low (Nat.le_refl _) (λm _ m2 _=>Nat.le_trans m2 s.chg.next);refine zrc (hw.ok s.fr) ha (λw=>zmA hc hdn) ?_;refine (hf (lay h h.next) sl.sub sl.chg.ok (sl.lent (List.nodup_append.1 hn).1)).mono λr h' ⟨us,z',γ,e1,hl,q,hz,hs,hold,hok,hown⟩=>⟨packed us,e1,λw=>?_⟩;have s':=sl.afterM (js:=js) hn q hz hs hold hown;rw [List.append_assoc] at s';have s'':StZ C M (owns rs us++(L1 γ++picks L js)) z' fr (lay h' (min h.wm h'.wm)):=s'.low (by have:=s'.chg.ok; omega) (λm m1 m2 m3=>by have h1:=s.chg.wm m m1 m2 m3; have h2:=s'.chg.wm m m1 m2 m3; omega);refine zh2 hno s''.chg.ok ?_;rw [hd,zbl];exact (hq γ).at hl _ _ ⟨z',s''.set (zkv hl hok)⟩
theorem zuV {g:FuncId} {as:List TE} {L0:Own} {rs:List RE} {L1:List zb->Own} (hcst:T.consts.get g=Oe) (hf:zh1 T g as L0 rs L1):zzQ T (.func (.func g) [] []) as L0 rs L1:=λz h vs h1 h2 h3 h4=>by
 refine zdh hcst ?_;rw [List.nil_append,List.append_nil];exact hf z h vs h1 h2 h3 h4
theorem zuW {c:Call} {x:Operand} {g:FuncId} {as:List TE} {rs:List RE} {L0 Lr:Own} {L1:List zb->Own} (ks js:List Nat) (hser:zjX d ops rest) (hf:zh1 T g as L0 rs L1) (h0:picks L ks=L0) (hr:picks L js=Lr) (hn:(ks++js).Nodup) (hcst:T.consts.get g=Oe) (hw:Want ops M Od o.guard) (ho:o.op=.call c) (hd:o.dst=Ob t) (hc:c.callee=.value x) (hx:Opd M x (.raw (.func (.func g) [] []))) (hvs:Opds M c.args.toList as)
 (hq:∀ γ,RQ rs (L1 γ++Lr) λes L'=>zr C T Oe ops rest ((t,zo4 es)::M) L' Q):zr C T d ops (o::rest) M L Q:=by
 subst h0 hr;exact zlM ks js hn hser hw hd (λz fr h s=>⟨.func (.func g) [] [],c.args.toList.map fr.op,by rw [ho]; simp only [aop,zc4,hc,hx.raw s.fr],λh1 h2 h3 h4=>zuV hcst hf z h1 _ h2 h3 (hvs.ok s.fr) h4⟩) hq
theorem zkA {c:Call} {x:Operand} {yv:zb} {X σ τ:Type} {ins:X->List TE} {step:σ->X->Option (σ⊕τ)} {K:σ⊕τ->List zb->Obj} {s:σ} {a:X} {r:σ⊕τ} {γ:List zb} {L0 Lr:Own} (ks js:List Nat) (hser:zjX d ops rest) (hcb:zra T yv ins step K) (hs:step s a=Ob r) (h0:picks L ks=L0) (hL0:L0=[(yv,K (.inl s) γ)]) (hr:picks L js=Lr) (hn:(ks++js).Nodup) (hw:Want ops M Od o.guard) (ho:o.op=.call c) (hd:o.dst=Ob t) (hc:c.callee=.value x) (hx:Opd M x (.raw yv)) (hvs:Opds M c.args.toList (ins a))
 (hq:∀ γ',zr C T Oe ops rest ((t,.val zaS r.isLeft)::M) ((yv,K r γ')::Lr) Q):zr C T d ops (o::rest) M L Q:=by
 subst hr h0;refine zlM (rs:=[.val zaS r.isLeft]) (L1:=λγ'=>[(yv,K r γ')]) ks js hn hser hw hd (λz fr h s=>⟨yv,c.args.toList.map fr.op,by rw [ho]; simp only [aop,zc4,hc,hx.raw s.fr],λh1 h2 h3 h4=>?_⟩) (λγ'=>hq γ');rw [hL0] at h4 ⊢;exact hcb.call _ γ a r hs z h1 _ h2 h3 (hvs.ok s.fr) h4
def zzR:Option Nat->zaC
 | none=>.ret
 | some id=>.exit id
def zzS:Option Nat->Code
 | none=>.ret
 | some id=>.exit id
def zuc {σ τ:Type} (B:zic) (X:τ->Option Nat):σ⊕τ->zic
 | .inl _=>{ B with state:=.ready,pending:=Oe }
 | .inr t=>{ B with state:=.done,pending:=Ob (zzS (X t)) }
def znU {σ τ:Type} (X:τ->Option Nat):σ⊕τ->zaC
 | .inl _=>.normal
 | .inr t=>zzR (X t)
def zg3 {σ τ:Type} (l:Nat) (B:zic) (M:Env) (I:σ⊕τ->List zb->Own) (X:τ->Option Nat) (r:σ⊕τ) (γ:List zb):Obj:=
 .cb (l::blks (I r γ)) λz h=>(∀ p∈I r γ,p.2.ok z h p.1)/\h.get l=Ob (.loop (zuc B X r))/\ziM z M B.fr
theorem zkB {σ τ:Type} {l:Nat} {B:zic} {I:σ⊕τ->List zb->Own} {X:τ->Option Nat} {r:σ⊕τ} {γ:List zb} {v:zb} (h1:∀ p∈I r γ,p.2.ok z h p.1) (h2:h.get l=Ob (.loop (zuc B X r))) (h3:ziM z M B.fr):(zg3 l B M I X r γ).ok z h v:=by
 refine ⟨⟨h1,h2,h3⟩,λz z' h h' hz hb q=>⟨λp hp=>?_, ?_,q.2.2.mono hz⟩⟩
 . exact Obj.ok_mono hz (λb hb'=>hb b (List.mem_cons_of_mem _ (zbF.2 ⟨p,hp,hb'⟩))) (q.1 p hp)
 . rw [hb l (List.mem_cons_self ..)]; exact q.2.1
def zuX:List Nat->List TE->Env->Env
 | p::ps,e::es,M=>zuX ps es ((p,e)::M)
 | _,_,M=>M
theorem zss:∀ {ps:List Nat} {es:List TE} {vs:List zb} {M:Env} {fr:zg},zG z es vs->ziM z M fr->ziM z (zuX ps es M) (zdr ps vs fr)
 | [],es,vs,M,fr,_,h=>by cases es<;>simpa [zuX,zdr] using h
 | p::ps,[],vs,M,fr,hv,h=>by
  simp only [zG] at hv;subst hv;simpa [zuX,zdr] using h
 | p::ps,e::es,vs,M,fr,hv,h=>by
  simp only [zG] at hv;obtain ⟨v,vs',rfl,h1,h2⟩:=hv;simp only [zuX,zdr];exact zss h2 (h.set h1)
def zBf {σ τ:Type} (C:Ctx) (I:σ⊕τ->List zb->Own) (X:τ->Option Nat) (r:σ⊕τ) (e:zaC) (fr:zg) (h:za):Prop:=e=znU X r/\∃ γ,St C [] (I r γ) fr h
def zBg {σ τ:Type} (C:Ctx) (T:Tab) (body:Code) (I:σ⊕τ->List zb->Own) (X:τ->Option Nat) (r:σ⊕τ) (e:zaC) (fr:zg) (h:za):Prop:=e=.normal/\∃ M1 L1,St C M1 L1 fr h/\∀ C',ze5 C' T body M1 L1 (zBf C' I X r)
theorem StZ.ctx {z0:Store} {h0:za} {B0:List Nat} {l:Nat} {x:zf8} (s:StZ ⟨z0,h0,B0⟩ M L z fr h) (hl:l<h0.next) (hB:l∉B0) (hz:z0 l=Oe):StZ ⟨z0,h0.set l x,B0⟩ M L z fr (h.set l x):=by
 have hzl:z l=Oe:=by rw [s.old l hl hB]; exact hz
 have hout:∀ p∈L,∀ b,b∈zfl p->b≠l:=by
  intro p hp b hb e;subst e;rcases (s.own.out p hp b hb).2.2 with q | q
  . have q:h0.next<=b:=q; omega
  . exact hB q
 refine { zle:=s.zle,sub:=λb y hb=>?_,old:=s.old,fr:=s.fr,own:=⟨λp hp=>?_,s.own.out,s.own.nodup⟩,chg:=⟨s.chg.next,λb hb hb'=>?_,λm m1 m2 m3=>?_, ?_⟩ }
 . obtain ⟨h1,h2⟩:=s.sub b y hb;exact ⟨by rw [za.get_set,if_neg (λe=>by subst e; rw [hzl] at hb; cases hb)]; exact h1,h2⟩
 . exact Obj.ok_mono (.refl _) (λb hb=>by rw [za.get_set,if_neg (λe=>hout p hp b hb e)]) (s.own.ok p hp)
 . rw [za.get_set];show _=(h0.set l x).get b;rw [za.get_set];split
   . rfl
   . exact s.chg.same b hb hb'
 . have m1:m<=min h0.wm l:=m1;have:=s.chg.wm m (by
    have:m<=h0.wm:=J
    exact this) m2 m3
   show m<=min h.wm l;omega
 . show min h.wm l<=h.next;have:=s.chg.ok;omega
theorem zp2 {σ τ X:Type} {ins:X->List TE} {step:σ->X->Option (σ⊕τ)} {I:σ⊕τ->List zb->Own} {E:τ->Option Nat} {l:Nat} {params:List Nat} {assign body:Code} {fr0:zg} (hp:∀ x,(ins x).length=params.length)
    (hb:∀ s γ x r,step s x=Ob r->∀ C,ze5 C T assign (zuX params (ins x) M) (I (.inl s) γ) (zBg C T body I E r)) :
    zra T (.func (.yield l) [] []) ins step (zg3 l { state:=.ready,pending:=Oe,fr:=fr0,params:=params,assign:=assign,body:=body } M I E):=by
  refine ⟨λs γ x r hs=>?_,rfl,rfl⟩;intro z h vs hsub hwm hvs hown;have hko:=hown.ok _ (List.mem_singleton.2 rfl);obtain ⟨⟨k1,k2,k3⟩,_⟩:=hko;have hblk:blks [((zb.func (.yield l) [] []:zb),zg3 l { state:=.ready,pending:=Oe,fr:=fr0,params:=params,assign:=assign,body:=body } M I E (.inl s) γ)]=l::blks (I (.inl s) γ):=by
    rw [zP]; simp [blks,zfl,zg3]
  have hnd:=hown.nodup;rw [hblk] at hnd ⊢;have hl:l<h.next/\z l=Oe:=by
    have:=hown.out _ (List.mem_singleton.2 rfl) l (List.mem_cons_self ..);exact ⟨this.2.1,this.1⟩
  have hlB:l∉blks (I (.inl s) γ):=(List.nodup_cons.1 hnd).1
  -- the assignments
  have s1:StZ ⟨z,h,blks (I (.inl s) γ)⟩ (zuX params (ins x) M) (I (.inl s) γ) z (zdr params vs fr0) h:=
    { zle:=.refl _,sub:=hsub,old:=λ_ _ _=>rfl,fr:=zss hvs k3,
      own:=⟨k1,λp hp b hb=>by
        have:=hown.out _ (List.mem_singleton.2 rfl) b (List.mem_cons_of_mem _ (zbF.2 ⟨p,hp,hb⟩));exact ⟨this.1,this.2.1,.inr (zbF.2 ⟨p,hp,hb⟩)⟩,(List.nodup_cons.1 hnd).2⟩,
      chg:=⟨Nat.le_refl _,λ_ _ _=>rfl,λ_ m1 _ _=>m1,hwm⟩ }
  obtain ⟨n1,e1,fr1,h1,a1,rfl,M1,L1,⟨z1,t1⟩,hbody⟩:=hb s γ x r hs _ _ _ ⟨z,s1⟩;have hg1:h1.get l=h.get l:=t1.chg.same l hl.1 hlB
  -- the body
  have t2:=t1.ctx (x:=.loop { state:=.busy,pending:=Oe,fr:=fr0,params:=params,assign:=assign,body:=body }) hl.1 hlB hl.2;obtain ⟨n2,e2,fr2,h2,a2,rfl,γ',z2,t3⟩:=hbody _ _ _ ⟨z1,t2⟩;have hl3:∀ b,b∈blks (I r γ')->b≠l:=by
    intro b hb' e;subst e;obtain ⟨p,hp,hb'⟩:=zbF.1 hb';rcases (t3.own.out p hp b hb').2.2 with q | q
    · have q:h.next<=b:=q; omega
    · exact hlB q
  have hz2:z2 l=Oe:=by rw [t3.old l hl.1 hlB]; exact hl.2
  have hn2:h.next<=h2.next:=t3.chg.next;have hlen:vs.length=params.length:=by rw [zcd hvs]; exact hp x
  have fin:around (aexec T (max n1 n2)) l vs h=Ob (.ret (.bool r.isLeft),h2.set l (.loop (zuc { state:=.ready,pending:=Oe,fr:=fr0,params:=params,assign:=assign,body:=body } E r))):=by
    have c1:=zd5 (T:=T) (Nat.le_max_left n1 n2) _ _ _ _ a1;have c2:=zd5 (T:=T) (Nat.le_max_right n1 n2) _ _ _ _ a2;unfold around;simp only [k2,zuc,hlen,and_self,if_true,c1,hg1,c2];cases r with
    | inl s'=>rfl
    | inr t'=>
      simp only [znU,zuc];cases hE:E t'<;>rfl
  refine ⟨max n1 n2,.ret (.bool r.isLeft),h2.set l (.loop (zuc { state:=.ready,pending:=Oe,fr:=fr0,params:=params,assign:=assign,body:=body } E r)), ?_, ?_⟩
  · simp only [acall,List.nil_append];exact fin
  refine ⟨[.bool r.isLeft],z2,γ',rfl,rfl,⟨hn2,λb hb' hB=>?_,λm m1 m2 m3=>?_, ?_⟩,t3.zle,λb y hby=>?_,λb hb' hB=>?_, ?_,⟨λp hp=>?_,λp hp b hb'=>?_, ?_⟩⟩
  · rw [za.get_set,if_neg (λe=>by subst e; exact hB (List.mem_cons_self ..))];have:=t3.chg.same b hb' (λq=>hB (List.mem_cons_of_mem _ q));rw [this];show (h.set l _).get b=_;rw [za.get_set,if_neg (λe=>by subst e; exact hB (List.mem_cons_self ..))]
  · have ml:m<=l:=m3 l (List.mem_cons_self ..);have:=t3.chg.wm m (by show m<=min h.wm l; have m1:m<=h.wm:=m1; omega) m2 (λb hb'=>m3 b (List.mem_cons_of_mem _ hb'));show m<=min h2.wm l;omega
  · show min h2.wm l<=h2.next;have:=t3.chg.ok;omega
  · obtain ⟨q1,q2⟩:=t3.sub b y hby;exact ⟨by rw [za.get_set,if_neg (λe=>by subst e; rw [hz2] at hby; cases hby)]; exact q1,q2⟩
  · exact t3.old b hb' (λq=>hB (List.mem_cons_of_mem _ q))
  · simp only [tes,zG,TE.ok];exact ⟨_,_,rfl,zfG,rfl⟩
  · rw [show owns [RE.val zaS r.isLeft] [zb.bool r.isLeft]=[] from rfl,List.nil_append,List.mem_singleton] at hp;subst hp;refine zkB (λp hp=>?_) (by rw [za.get_set,if_pos rfl]) (k3.mono t3.zle);exact Obj.ok_mono (.refl _) (λb hb'=>by rw [za.get_set,if_neg (hl3 b (zbF.2 ⟨p,hp,hb'⟩))]) (t3.own.ok p hp)
  · rw [show owns [RE.val zaS r.isLeft] [zb.bool r.isLeft]=[] from rfl,List.nil_append,List.mem_singleton] at hp;subst hp;rcases List.mem_cons.1 hb' with rfl | hb'
    · exact ⟨hz2,Nat.lt_of_lt_of_le hl.1 hn2,.inr (List.mem_cons_self ..)⟩
    · obtain ⟨p,hp,hb'⟩:=zbF.1 hb';obtain ⟨o1,o2,o3⟩:=t3.own.out p hp b hb';refine ⟨o1,o2, ?_⟩;rcases o3 with q | q
      · exact .inl q
      · exact .inr (List.mem_cons_of_mem _ q)
  · rw [show owns [RE.val zaS r.isLeft] [zb.bool r.isLeft]=[] from rfl,List.nil_append,zP];show (l::blks (I r γ')++blks []).Nodup;simp only [blks,List.flatMap_nil,List.append_nil];exact List.nodup_cons.2 ⟨λq=>hl3 l q rfl,t3.own.nodup⟩
theorem zfI {x:zb×Obj}:∀ {is:List Nat},picks (x::L) (is.map (·+1))=picks L is
 | []=>rfl
 | i::is=>by
  simp only [List.map_cons,picks,List.getElem?_cons_succ];cases L[i]? with
  | none=>exact zfI
  | some p=>simp only [zfI]
theorem zkC:∀ {L:Own},picks L (List.range L.length)=L
 | []=>rfl
 | x::L=>by
  rw [List.length_cons,List.range_succ_eq_map];simp only [picks,List.getElem?_cons_zero];have e:(List.range L.length).map Nat.succ=(List.range L.length).map (·+1):=rfl;rw [e,zfI,zkC]
theorem zo7 {σ τ X:Type} {ins:X->List TE} {step:σ->X->Option (σ⊕τ)} (I:σ⊕τ->List zb->Own) (E:τ->Option Nat) {f:Operand} {params:Array Nat} {assign body:Code} {g:FuncId} {ps cs:List TE} {s0:σ} {r:σ⊕τ} {Lr:Own} (γ0:List zb) (ks js:List Nat)
    (hcst:T.consts.get g=Oe) (hf:Opd M f (.val (zq8 g ps cs) ())) (h0:picks L ks=I (.inl s0) γ0) (hr:picks L js=Lr) (hn:(ks++js).Nodup) (hp:∀ x,(ins x).length=params.size)
    (hit:∀ (yv:zb) (K:σ⊕τ->List zb->Obj),zra T yv ins step K->∀ γ,zh1 T g (ps++[.raw yv]++cs) [(yv,K (.inl s0) γ)] [] λγ'=>[(yv,K r γ')])
    (hb:∀ s γ x r,step s x=Ob r->∀ C,ze5 C T assign (zuX params.toList (ins x) M) (I (.inl s) γ) (zBg C T body I E r))
    (out:∀ γ fr h,St C M (I r γ++Lr) fr h->P (znU E r) fr h):ze5 C T (.rangeFunc f params assign body) M L P:=by
  subst hr;intro fr h ⟨z,s⟩;obtain ⟨us0,vs0,ev,hps,hcs⟩:=zsq (hf.val s.fr);have hpk:StZ C M (I (.inl s0) γ0++picks L js) z fr h:=by
    have e:picks L (ks++js)=I (.inl s0) γ0++picks L js:=by rw [zgv,h0]
    rw [← e];exact { s with own:=⟨λp hp=>s.own.ok p (zbH hp),λp hp=>s.own.out p (zbH hp),zcM s.own.nodup hn⟩ }
  generalize picks L js=Lr at hpk out
  let B:zic:={ state:=.ready,pending:=Oe,fr:=fr,params:=params.toList,assign:=assign,body:=body }
  have cb:zra T (.func (.yield h.next) [] []) ins step (zg3 h.next B M I E):=zp2 (by simpa using hp) hb;have s2:StZ C M ((.func (.yield h.next) [] [],.cb [h.next] λ_ h'=>h'.get h.next=Ob (.loop B))::(I (.inl s0) γ0++Lr)) z fr (h.push (.loop B)):=
    hpk.pushOwn (.loop B) rfl ⟨by show (h.push (.loop B)).get h.next=_; rw [za.get_push,if_pos rfl],λ_ _ h1 h1' _ hb q=>by
      have q:h1.get h.next=Ob (.loop B):=q;show h1'.get h.next=_;rw [hb _ (List.mem_singleton.2 rfl)]; exact q⟩
  have s3:StZ C M ((.func (.yield h.next) [] [],zg3 h.next B M I E (.inl s0) γ0)::Lr) z fr (h.push (.loop B)):=by
    refine s2.repack (List.Perm.of_eq ?_) λp hp'=>?_
    · rw [zP,zP];show (h.next::blks (I (.inl s0) γ0))++blks Lr=[h.next]++blks (I (.inl s0) γ0++Lr);simp [blks]
    · rcases List.mem_cons.1 hp' with rfl | hp'
      · exact zkB (λp hp=>s2.own.ok p (List.mem_cons_of_mem _ (List.mem_append_left _ hp))) (by rw [za.get_push,if_pos rfl]; rfl) s.fr
      · exact s2.own.ok p (List.mem_cons_of_mem _ (List.mem_append_right _ hp'))
  have hjs:picks ((.func (.yield h.next) [] [],zg3 h.next B M I E (.inl s0) γ0)::Lr) ((List.range Lr.length).map (·+1))=Lr:=by rw [zfI,zkC]
  have hnd:([0]++(List.range Lr.length).map (·+1)).Nodup:=by
    refine List.nodup_append.2 ⟨by simp,List.Pairwise.map _ (λa b q e=>q J) List.nodup_range,λa ha b hb e=>?_⟩;rw [List.mem_singleton] at ha;subst ha;obtain ⟨i,_,q⟩:=List.mem_map.1 hb;omega
  have hL:=s3.lent (ks:=[0]) Ol;have hcall:=hit _ _ cb γ0 z (h.push (.loop B)) (us0++[.func (.yield h.next) [] []]++vs0) s3.sub s3.chg.ok (zee (zee hps (by simp [zG,TE.ok])) hcs) hL;have hcall:=zdh (a:=us0) (b:=vs0) hcst hcall;obtain ⟨n,r',h2,hrun,us,z',γ,e1,hl,q,hz,hs,hold,hok,hown⟩:=hcall;have hus:us=[]:=List.length_eq_zero_iff.1 hl;subst hus;have s4:=s3.afterM (ks:=[0]) (js:=(List.range Lr.length).map (·+1)) hnd q hz hs hold hown;rw [hjs] at s4;have s4:StZ C M ((.func (.yield h.next) [] [],zg3 h.next B M I E r γ)::Lr) z' fr h2:=s4;obtain ⟨⟨o1,o2,_⟩,_⟩:=s4.own.ok _ (List.mem_cons_self ..);obtain ⟨w1,w2,w3⟩:=s4.own.out _ (List.mem_cons_self ..) h.next (List.mem_cons_self ..);have hnd4:(h.next::(blks (I r γ)++blks Lr)).Nodup:=by
    have:=s4.own.nodup;rw [zP] at this;exact this
  have hblk:blks (I r γ++Lr)=blks (I r γ)++blks Lr:=by simp [blks]
  have s5:StZ C M (I r γ++Lr) z' fr h2:=by
    refine { s4 with own:=⟨λp hp'=>?_,λp hp' b hb'=>?_,by rw [hblk]; exact (List.nodup_cons.1 hnd4).2⟩ }
    · rcases List.mem_append.1 hp' with hp' | hp'
      · exact o1 p hp'
      · exact s4.own.ok p (List.mem_cons_of_mem _ hp')
    · rcases List.mem_append.1 hp' with hp' | hp'
      · exact s4.own.out _ (List.mem_cons_self ..) b (List.mem_cons_of_mem _ (zbF.2 ⟨p,hp',hb'⟩))
      · exact s4.own.out p (List.mem_cons_of_mem _ hp') b hb'
  have s6:∀ x,StZ C M (I r γ++Lr) z' fr (h2.set h.next x):=λx=>s5.wild w1 w2 w3 (by rw [hblk]; exact (List.nodup_cons.1 hnd4).1) x;have hrun':acall T (aexec T n) (fr.op f) [.func (.yield h.next) [] []] (h.push (.loop { state:=.ready,pending:=Oe,fr:=fr,params:=params.toList,assign:=assign,body:=body }))=Ob (r',h2):=by rw [ev]; exact hrun
  subst e1;refine ⟨n+1,znU E r,fr,h2.set h.next (.loop { zuc B E r with state:=.exhausted }), ?_,out γ fr _ ⟨z',s6 _⟩⟩;simp only [aexec,hrun',o2];cases r with
  | inl s'=>rfl
  | inr t'=>
    simp only [zuc,znU];cases hE:E t'<;>rfl
def goL {σ τ:Type}:σ⊕τ->Option σ
 | .inl s=>Ob s
 | .inr _=>Oe
theorem zja {σ τ:Type} {r:σ⊕τ} {s:σ} (h:goL r=Ob s):r=.inl s:=by
 cases r with
 | inl a=>cases h; rfl
 | inr b=>cases h
def zAK {σ τ A:Type} {B:Type 1} (f:σ->A->B) (g:τ->A->B):σ⊕τ->A->B
 | .inl s=>f s
 | .inr t=>g t
theorem znV {σ τ:Type} {K:σ⊕τ->List zb->Obj} {yv:zb} {r:σ⊕τ} {s:σ} {γ:List zb} (k:Nat) (hr:r=.inl s) (hk:L[k]?=Ob (yv,K r γ)) {L':Own} (hL:zeQ L k (yv,K (.inl s) γ)=Ob L'):∀ z fr h,StZ C M L z fr h->∃ z',z.le z'/\StZ C M L' z' fr h:=λz fr h s0=>by
 subst hr;obtain ⟨rfl,_⟩:=ziu hL;rw [set_same hk];exact ⟨z,.refl _,s0⟩
theorem zmB {g:FuncId} {as:List TE} {L0:Own} {rs:List RE} {yv:zb} {F:List zb->Obj} (h:zh1 T g as L0 rs λγ=>[(yv,F (untup (gh γ 0)))]):zh1 T g as L0 rs λγ=>[(yv,F γ)]:=λz hp vs h1 h2 h3 h4=>
 (h z hp vs h1 h2 h3 h4).mono λ_ _ ⟨us,z',γ,q⟩=>⟨us,z',untup (gh γ 0),q⟩
theorem zBh {M':Env} {L':Own} {R:zg->za->Prop} (is:List Nat) (q:zmo M M') (hL:picks L is=L') (hn:is.Nodup) (k:∀ fr h,St C M' L' fr h->R fr h):∀ fr h,St C M L fr h->R fr h:=λfr h s=>k fr h (s.pick is q hL hn)
def zwn (C:Ctx) (M:Env) (L:Own) (x:Operand) (e:TE):Prop:=∀ z fr h,StZ C M L z fr h->e.ok h.st (fr.op x)
inductive zlN (C:Ctx) (M:Env) (L:Own):List Operand->List TE->Prop where
 | n:zlN C M L [] []
 | c {x:Operand} {e:TE} {xs:List Operand} {es:List TE} (h:zwn C M L x e) (r:zlN C M L xs es):zlN C M L (x::xs) (e::es)
theorem zlN.ok {xs:List Operand} {es:List TE} (q:zlN C M L xs es) (s:StZ C M L z fr h):zG h.st es (xs.map fr.op):=by
 induction q with
 | n=>simp [zG]
 | c h _ ih=>simp only [zG,List.map]; exact ⟨_,_,rfl,h _ _ _ s,ih⟩
theorem zuY {c:Call} {x:Operand} {g:FuncId} {as:List TE} {rs:List RE} (hf:Fun T g as rs) (hfl:Flats rs) (hcst:T.consts.get g=Oe) (hw:Want ops M Od o.guard) (ho:o.op=.call c) (hd:o.dst=Ob t) (hc:c.callee=.value x) (hx:Opd M x (.raw (.func (.func g) [] []))) (hvs:zlN C M L c.args.toList as)
 (hq:RQ rs L λes L'=>zr C T d ops rest ((t,zo4 es)::M) L' Q):zr C T d ops (o::rest) M L Q:=by
 refine ziz hw hd hq λz fr h s=>⟨.func (.func g) [] [],c.args.toList.map fr.op,by rw [ho]; simp only [aop,zc4,hc,hx.raw s.fr],λh1 hn hg hwm=>?_⟩;refine zdh hcst ?_;rw [List.nil_append,List.append_nil];have est:h1.st=h.st:=by funext b; unfold za.st; rw [hn,hg]
 have s1:StZ ⟨z,h1,[]⟩ M [] z fr h1:=
  { zle:=.refl _,sub:=λb y hb=>by rw [hn,hg]; exact s.sub b y hb,old:=λ_ _ _=>rfl,fr:=s.fr,own:=⟨λp hp=>(nomatch hp),λp hp=>(nomatch hp),List.nodup_nil⟩,chg:=⟨Nat.le_refl _,λ_ _ _=>rfl,λ_ m1 _ _=>m1,hwm⟩ }
 have:=znS (T:=T) hfl s1 hf (by rw [est]; exact hvs.ok s) hwm;rw [hn] at this;exact this
def zBi (C:Ctx) (M:Env) (L:Own) (e e':TE):Prop:=∀ z fr h a,StZ C M L z fr h->e.ok z a->e'.ok h.st a
inductive zst (C:Ctx) (M:Env) (L:Own):List TE->List TE->Prop where
 | n:zst C M L [] []
 | c {e e':TE} {es es':List TE} (h:zBi C M L e e') (r:zst C M L es es'):zst C M L (e::es) (e'::es')
theorem zst.ok {es es':List TE} (q:zst C M L es es') (s:StZ C M L z fr h):∀ {vs:List zb},zG z es vs->zG h.st es' vs:=by
 induction q with
 | n=>intro vs h; simpa [zG] using h
 | c h _ ih=>
  intro vs hv;simp only [zG] at hv ⊢;obtain ⟨v,vs',rfl,h1,h2⟩:=hv;exact ⟨v,vs',rfl,h _ _ _ _ s h1,ih h2⟩
end
def mget {A B:Type} [DecidableEq A]:List (A×B)->A->Option B
 | [],_=>Oe
 | (k,v)::es,x=>if x=k then Ob v else mget es x
def mset {A B:Type} [DecidableEq A]:List (A×B)->A->B->List (A×B)
 | [],x,v=>[(x,v)]
 | (k,w)::es,x,v=>if x=k then (x,v)::es else (k,w)::mset es x v
def mpos {A B:Type} [DecidableEq A]:List (A×B)->A->Nat
 | [],_=>0
 | (k,_)::es,x=>if x=k then 0 else mpos es x+1
structure zxn (T:Tab) (kt:TypeId) {A:Type} [DecidableEq A] (Q:Rep A):Prop where
 plain:∀ z v x,TV Q z v x->zgF T kt v=Od
 eq:∀ z z' v v' x y,TV Q z v x->TV Q z' v' y->akey v v'=Ob (decide (x=y))
structure KF (T:Tab) (fs:List Field) (i:Nat) {A:Type} [DecidableEq A] (R:Rep A):Prop where
 plain:∀ z cs x,R.rel z cs x->zfM T i fs cs=Od
 eq:∀ z z' cs ds x y,R.rel z cs x->R.rel z' ds y->akeys cs ds=Ob (decide (x=y))
theorem zsu {A:Type} {R:Rep A} {z:Store} {v:zb} {x:A} (h:TV R z v x) (ha:R.agg=Od):∃ cs,v=.agg cs/\R.rel z cs x:=by
 have h1:=h.rel;have h2:=h.agg;rw [ha] at h2;cases v<;>first | exact ⟨_,rfl,h1⟩ | cases h2
theorem zsv {T:Tab} {i:Nat}:KF T [] i zcS:=by
 refine ⟨λz cs x h=>?_,λz z' cs ds x y h h'=>?_⟩
 . have:cs=[]:=h;rw [this]; rfl
 . have e1:cs=[]:=h;have e2:ds=[]:=h';rw [e1,e2]; simp [akeys]
theorem zkD {A B:Type} [DecidableEq A] [DecidableEq B] (x y:A×B):decide (x=y)=(decide (x.1=y.1)&&decide (x.2=y.2)):=by
 rcases x with ⟨a,b⟩;rcases y with ⟨c,d⟩;simp only [Prod.mk.injEq,Bool.decide_and]
theorem zp3 {T : Tab} {f : Field} {fs : List Field} {i : Nat} {k : IntKind} {B : Type} [DecidableEq B] {S : Rep B} (hn : (f.name != "_") = true) (ho : Nat.beq f.offset i = true) (hu : T.und f.type = some (.int k)) (r : KF T fs (i + 1) S) : KF T (f :: fs) i (zI (zi k) S) := by
 refine ⟨fun z cs x h=>?_,fun z z' cs ds x y h h'=>?_⟩
 ·obtain ⟨c1,c2,rfl,⟨rfl,_⟩,h2⟩:=h;simp [zfM,hn,ho,zid,hu,r.plain z c2 _ h2]
 ·obtain ⟨c1,c2,rfl,⟨rfl,_⟩,h2⟩:=h;obtain ⟨d1,d2,rfl,⟨rfl,_⟩,h2'⟩:=h';rw [zkD];simp only [List.cons_append,List.nil_append,akeys,zhS,if_true,r.eq z z' _ _ _ _ h2 h2'];by_cases e:x.1=y.1
  ·rw [e]; simp
  ·rw [(by simpa using e:(x.1==y.1)=Oc)]; simp [e]
theorem zsw {T : Tab} {f : Field} {fs : List Field} {i : Nat} {B : Type} [DecidableEq B] {S : Rep B} (hn : (f.name != "_") = true) (ho : Nat.beq f.offset i = true) (hu : T.und f.type = some .bool) (r : KF T fs (i + 1) S) : KF T (f :: fs) i (zI zaS S) := by
 refine ⟨fun z cs x h=>?_,fun z z' cs ds x y h h'=>?_⟩
 ·obtain ⟨c1,c2,rfl,h1,h2⟩:=h;have h1:c1=[.bool x.1]:=h1;subst h1;simp [zfM,hn,ho,zid,hu,r.plain z c2 _ h2]
 ·obtain ⟨c1,c2,rfl,h1,h2⟩:=h;obtain ⟨d1,d2,rfl,h1',h2'⟩:=h';have h1:c1=[.bool x.1]:=h1;have h1':d1=[.bool y.1]:=h1';subst h1 h1';rw [zkD];simp only [List.cons_append,List.nil_append,akeys,zhS,r.eq z z' _ _ _ _ h2 h2'];by_cases e:x.1=y.1
  ·rw [e]; simp
  ·rw [(by simpa using e:(x.1==y.1)=Oc)]; simp [e]
theorem zsx {T:Tab} {kt:TypeId} {fs:Array Field} {A:Type} [DecidableEq A] {R:Rep A} (hu:T.und kt=Ob (.struct fs)) (hs:(!((T.types.get kt).map (·.stood)).getD Od)=Od) (ha:R.agg=Od) (r:KF T fs.toList 0 R):zxn T kt R:=by
 refine ⟨λz v x h=>?_,λz z' v v' x y h h'=>?_⟩
 . obtain ⟨cs,rfl,h1⟩:=zsu h ha;simp [zgF,hu,r.plain z cs x h1] at hs ⊢;exact hs
 . obtain ⟨cs,rfl,h1⟩:=zsu h ha;obtain ⟨ds,rfl,h2⟩:=zsu h' ha;exact r.eq z z' cs ds x y h1 h2
section
variable {A B:Type} [DecidableEq A]
def zg5 {A B:Type} (Q:Rep A) (R:Rep B) (z:Store) (l:List (zb×zb)) (es:List (A×B)):Prop:=
 l.length=es.length/\∀ (i:Nat) (p:zb×zb) (q:A×B),l[i]?=Ob p->es[i]?=Ob q->TV Q z p.1 q.1/\TV R z p.2 q.2
theorem zcl {A B:Type} {Q:Rep A} {R:Rep B} {z:Store} {p:zb×zb} {l:List (zb×zb)} {q:A×B} {es:List (A×B)}:zg5 Q R z (p::l) (q::es)↔(TV Q z p.1 q.1/\TV R z p.2 q.2)/\zg5 Q R z l es:=by
 constructor
 . rintro ⟨h1,h2⟩
   refine ⟨h2 0 p q rfl rfl,by simpa using h1,λi p' q' hp hq=>h2 (i+1) p' q' (by simpa using hp) (by simpa using hq)⟩
 . rintro ⟨h1,h2,h3⟩
   refine ⟨by simp [h2],λi p' q' hp hq=>?_⟩;cases i with
   | zero=>simp at hp hq; subst hp hq; exact h1
   | succ i=>exact h3 i p' q' (by simpa using hp) (by simpa using hq)
theorem zg5.mono {A B:Type} {Q:Rep A} {R:Rep B} {z z':Store} {l:List (zb×zb)} {es:List (A×B)} (e:z.le z') (h:zg5 Q R z l es):zg5 Q R z' l es:=
 ⟨h.1,λi p q hp hq=>⟨(h.2 i p q hp hq).1.mono e,(h.2 i p q hp hq).2.mono e⟩⟩
theorem ziA {T:Tab} {kt:TypeId} {Q:Rep A} {R:Rep B} {z:Store} {kv:zb} {x:A} (hQ:zxn T kt Q) (hkv:TV Q z kv x):∀ {l:List (zb×zb)} {es:List (A×B)} {n:Nat},zg5 Q R z l es ->
    (mget es x=Oe/\mpos es x=l.length/\afind kv l n=Ob Oe/\∀ (v:zb) (w:B),TV R z v w->zg5 Q R z (l++[(kv,v)]) (mset es x w)) \/
    (∃ v y,mget es x=Ob y/\afind kv l n=Ob (Ob (n+mpos es x,v))/\TV R z v y/\∀ (v:zb) (w:B),TV R z v w->zg5 Q R z (l.set (mpos es x) (kv,v)) (mset es x w))
  | [],[],n,h=>.inl ⟨rfl,rfl,rfl,λv w hw=>zcl.2 ⟨⟨hkv,hw⟩,h⟩⟩
  | [],_::_,_,h=>by have:=h.1; simp at this
  | _::_,[],_,h=>by have:=h.1; simp at this
  | (pk,pv)::l,(qk,qv)::es,n,h=>by
    obtain ⟨⟨h1,h2⟩,h3⟩:=zcl.1 h;have ek:=hQ.eq z z kv pk x qk hkv h1;by_cases e:x=qk
    · subst e;rw [decide_eq_true rfl] at ek;right;refine ⟨pv,qv,by simp [mget],by simp [afind,ek,mpos],h2,λv w hw=>?_⟩;simp only [mpos,List.set_cons_zero,mset,if_true];exact zcl.2 ⟨⟨hkv,hw⟩,h3⟩
    · rw [decide_eq_false e] at ek;rcases ziA (n:=n+1) hQ hkv h3 with ⟨a1,a0,a2,a3⟩ | ⟨v,y,a1,a2,a3,a4⟩
      · left;refine ⟨by simp [mget,e,a1],by simp [mpos,e,a0],by simp [afind,ek,a2],λv w hw=>?_⟩;simp only [mset,if_neg e,List.cons_append];exact zcl.2 ⟨⟨h1,h2⟩,a3 v w hw⟩
      · right;refine ⟨v,y,by simp [mget,e,a1],by simp only [afind,ek,a2,mpos,if_neg e]; congr 3; omega,a3,λv w hw=>?_⟩;simp only [mset,mpos,if_neg e,List.set_cons_succ];exact zcl.2 ⟨⟨h1,h2⟩,a4 v w hw⟩
theorem zlO {Q:Rep A} {R:Rep B} {z:Store} {x:A} {v:zb} {w w0:B} (hw:TV R z v w):∀ {l:List (zb×zb)} {es:List (A×B)},zg5 Q R z l (mset es x w0)->∃ kv v0,l[mpos es x]?=Ob (kv,v0)/\zg5 Q R z (l.set (mpos es x) (kv,v)) (mset es x w)
 | [],[],h=>by have:=h.1; simp [mset] at this
 | [],(_,_)::_,h=>by have:=h.1; simp only [mset] at this; split at this<;>simp at this
 | (pk,pv)::l,[],h=>by
  obtain ⟨⟨h1,_⟩,h3⟩:=zcl.1 h;exact ⟨pk,pv,rfl,zcl.2 ⟨⟨h1,hw⟩,h3⟩⟩
 | (pk,pv)::l,(qk,qv)::es,h=>by
  by_cases e:x=qk
  . simp only [mset,mpos,if_pos e] at h ⊢;obtain ⟨⟨h1,_⟩,h3⟩:=zcl.1 h;exact ⟨pk,pv,rfl,zcl.2 ⟨⟨h1,hw⟩,h3⟩⟩
  . simp only [mset,mpos,if_neg e] at h ⊢;obtain ⟨h1,h3⟩:=zcl.1 h;obtain ⟨kv,v0,g1,g2⟩:=zlO hw h3;exact ⟨kv,v0,g1,zcl.2 ⟨h1,g2⟩⟩
end
structure Mp (T:Tab) (mt:TypeId) {A:Type} [DecidableEq A] (Q:Rep A) (et:TypeId):Prop where
 und:∃ kt,T.und mt=Ob (.map kt et)/\zxn T kt Q
def zoC {A B:Type} (Q:Rep A) (R:Rep B):Rep (List (A×B)):=
 ⟨1,Oc,λz cs es=>∃ v,cs=[v]/\((v=.nm/\es=[])\/∃ b l,v=.map b/\z b=Ob (.mp l)/\zg5 Q R z l es),λ_ _ _ h=>by obtain ⟨v,h,_⟩:=h; rw [h]; rfl,
  λ_ _ _ _ e h=>let ⟨v,h1,h2⟩:=h; ⟨v,h1,h2.imp id λ⟨b,l,g1,g2,g3⟩=>⟨b,l,g1,e _ _ g2,g3.mono e⟩⟩,
  λ_=>rfl,λ_ _ _ h=>by
   obtain ⟨v,h,r⟩:=h;rw [h];rcases r with ⟨rfl,_⟩ | ⟨b,l,rfl,_⟩<;>rfl⟩
theorem zwo {A B:Type} {Q:Rep A} {R:Rep B} {z:Store} {v:zb} {es:List (A×B)} (h:TV (zoC Q R) z v es):(v=.nm/\es=[])\/∃ b l,v=.map b/\z b=Ob (.mp l)/\zg5 Q R z l es:=by
 have h1:=h.rel;have h2:=h.agg;obtain ⟨v',q,r⟩:=h1;have:v=v':=by
  cases v<;>simp_all [zb.cells,zoC,zb.isAgg]
 subst this;exact r
theorem zsy {A B:Type} {Q:Rep A} {R:Rep B} {z:Store} {b:Nat} {l:List (zb×zb)} {es:List (A×B)} (h:z b=Ob (.mp l)) (r:zg5 Q R z l es):TV (zoC Q R) z (.map b) es:=⟨⟨_,rfl,.inr ⟨b,l,rfl,h,r⟩⟩,rfl⟩
section
variable {A:Type} [DecidableEq A]
variable {C:Ctx} {T:Tab} {d:Option (List Nat)} {ops rest:List Oper} {M:Env} {L:Own} {Q:zg->za->Prop} {P:zaC->zg->za->Prop} {o:Oper} {t:Nat} {z:Store} {fr:zg} {h:za}
theorem zo8 {B:Type} {K:Rep A} (R:Rep B) {mt et:TypeId} {r:Option Operand} (hm:Mp T mt K et) (hr:r=Oe) (hw:Want ops M Od o.guard) (ho:o.op=.makeMap mt r) (hd:o.dst=Ob t)
 (go:∀ b,zr C T d ops rest ((t,.raw (.map b))::M) ((.map b,.mp K R [])::L) Q):zr C T d ops (o::rest) M L Q:=by
 subst hr;obtain ⟨kt,h1,h2⟩:=hm.und;have hno:zdk o.op=Od:=by rw [ho]; rfl
 refine zgc hw (nf hno) λz fr h s=>?_;refine ⟨.map h.next,h.push (.mp []),z,_,_,by rw [ho]; simp only [aop,ze4,h1],nfo hno,.refl _, ?_,go h.next⟩;rw [hd,zbl];refine (s.pushOwn (.mp []) (v:=.map h.next) (ob:=.mp K R []) rfl ?_).set (by simp only [TE.ok]);simp only [Obj.ok];exact ⟨h.next,[],rfl,by rw [za.get_push,if_pos rfl],rfl,by simp⟩
theorem zp4 {B:Type} {K:Rep A} {R:Rep B} {mt et:TypeId} {m x y:Operand} {b:Nat} {es:List (A×B)} {i:A} {w:B} (kk:Nat) (hm:Mp T mt K et) (ho:o.op=.mapUpdate mt m x y\/o.op=.insert mt m x y) (hk:L[kk]?=Ob (.map b,.mp K R es)) (hw:Want ops M Od o.guard) (hd:o.dst=Oe)
 (hmx:Opd M m (.raw (.map b))) (hx:Opd M x (.val K i)) (hy:Opd M y (.val R w)) {L':Own} (hL:zeQ L kk (.map b,.mp K R (mset es i w))=Ob L') (r:zr C T d ops rest M L' Q):zr C T d ops (o::rest) M L Q:=by
 obtain ⟨kt,h1,h2⟩:=hm.und;have hft:∀ fr:zg,foot fr.op o=⟨[],Oc,zN (fr.op m),Oc⟩:=λfr=>by
  rcases ho with ho | ho<;>(unfold foot; rw [ho])
 have hop:∀ (fr:zg) (h:za),aop T fr.op h o.op=zfn (zbN T mt (fr.op m) (fr.op x) (fr.op y) h):=λfr h=>by
  rcases ho with ho | ho<;>rw [ho]<;>rfl
 refine ziy (.w (by rcases ho with ho | ho<;>rw [ho]<;>rfl) (λt a q=>by rcases ho with ho | ho<;>(rw [ho] at q; cases q)) (by rcases ho with ho | ho<;>rw [ho]<;>rfl) (λq=>by rcases ho with ho | ho<;>(rw [ho] at q; cases q))) (λz fr h s=>by
  rw [hft];exact ⟨λb hb=>(nomatch hb),λb' hb=>zet s hk rfl b' (by simpa [zN,hmx.raw s.fr] using hb)⟩) hw hd (λz fr h s=>?_) r
 have hob:=s.own.ok _ (List.mem_of_getElem? hk);simp only [Obj.ok] at hob;obtain ⟨b',l,e,g1,g2,g3⟩:=hob;cases e;have hpk:=h2.plain z _ i (hx.val s.fr);rcases ziA (n:=0) (l:=l) (es:=es) (R:=R) h2 (hx.val s.fr) ⟨g2,g3⟩ with ⟨a1,_,a2,a3⟩ | ⟨v,y',a1,a2,a3,a4⟩
 . obtain ⟨k1,k2⟩:=a3 _ w (hy.val s.fr);refine ⟨.tuple [],h.set b (.mp (l++[(fr.op x,fr.op y)])), ?_,s.upd hk rfl rfl _ ?_ hL⟩
   . rw [hop,hmx.raw s.fr];simp only [zbN,h1,hpk,if_true,g1,a2];rfl
   . simp only [Obj.ok];exact ⟨b,_,rfl,by rw [za.get_set,if_pos rfl],k1,k2⟩
 . obtain ⟨k1,k2⟩:=a4 _ w (hy.val s.fr);refine ⟨.tuple [],h.set b (.mp (l.set (mpos es i) (fr.op x,fr.op y))), ?_,s.upd hk rfl rfl _ ?_ hL⟩
   . rw [hop,hmx.raw s.fr];simp only [zbN,h1,hpk,if_true,g1,a2];rw [Nat.zero_add]; rfl
   . simp only [Obj.ok];exact ⟨b,_,rfl,by rw [za.get_set,if_pos rfl],k1,k2⟩
theorem zzT {B:Type} {K:Rep A} {R:Rep B} {mt et:TypeId} {m x:Operand} {b:Nat} {es:List (A×B)} {i:A} {w0:B} (kk:Nat) (hm:Mp T mt K et) (hz:Zr T et R w0) (hk:L[kk]?=Ob (.map b,.mp K R es)) (hw:Want ops M Od o.guard) (ho:o.op=.mapEntry mt m x) (hd:o.dst=Ob t)
 (hmx:Opd M m (.raw (.map b))) (hx:Opd M x (.val K i)) {L':Own} (hL:zeQ L kk (.map b,.mp K R (mset es i ((mget es i).getD w0)))=Ob L')
 (r:zr C T d ops rest ((t,.tup [.val R ((mget es i).getD w0),.raw (.int .i64 (mpos es i:Int))])::M) L' Q):zr C T d ops (o::rest) M L Q:=by
 obtain ⟨kt,h1,h2⟩:=hm.und;obtain ⟨zv,z1,z2⟩:=hz.zero;refine znP (e:=λ_=>.tup [.val R ((mget es i).getD w0),.raw (.int .i64 (mpos es i:Int))]) (L':=λ_=>L') (.w (by rw [ho]; rfl) (λt a q=>by rw [ho] at q; cases q) (by rw [ho]; rfl) (λq=>by rw [ho] at q; cases q)) (λz fr h s=>by
  rw [show foot fr.op o=⟨[],Oc,zN (fr.op m),Oc⟩ by unfold foot; rw [ho]];exact ⟨λb hb=>(nomatch hb),λb' hb=>zet s hk rfl b' (by simpa [zN,hmx.raw s.fr] using hb)⟩) hw hd (λz fr h s=>?_) (λ_=>r)
 have hob:=s.own.ok _ (List.mem_of_getElem? hk);simp only [Obj.ok] at hob;obtain ⟨b',l,e,g1,g2,g3⟩:=hob;cases e;have hpk:=h2.plain z _ i (hx.val s.fr);have hop:aop T fr.op h o.op=zfm (zcz T mt (.map b) (fr.op x) h):=by rw [ho,← hmx.raw s.fr]; rfl
 have fin:∀ {v:zb} {n:Nat},n=mpos es i->TV R z v ((mget es i).getD w0)->TE.ok z (.tup [.val R ((mget es i).getD w0),.raw (.int .i64 (mpos es i:Int))]) (.tuple [v,.int .i64 n]):=λe1 e2=>by
  subst e1;simp only [TE.ok];refine ⟨_,rfl, ?_⟩;simp only [zG,TE.ok];exact ⟨_,_,rfl,e2,_,_,rfl,rfl,rfl⟩
 rcases ziA (n:=0) (l:=l) (es:=es) (R:=R) h2 (hx.val s.fr) ⟨g2,g3⟩ with ⟨a1,a0,a2,a3⟩ | ⟨v,y',a1,a2,a3,a4⟩
 . have hv:TV R z zv ((mget es i).getD w0):=by rw [a1]; exact z2 z
   obtain ⟨k1,k2⟩:=a3 zv _ hv;refine ⟨.tuple [zv,.int .i64 l.length],h.set b (.mp (l++[(fr.op x,zv)])),.undef, ?_,s.upd hk rfl rfl _ ?_ hL,fin a0.symm hv⟩
   . rw [hop];simp only [zcz,h1,hpk,if_true,g1,a2,z1];rfl
   . simp only [Obj.ok];exact ⟨b,_,rfl,by rw [za.get_set,if_pos rfl],k1,k2⟩
 . have hv:TV R z v ((mget es i).getD w0):=by rw [a1]; exact a3
   obtain ⟨k1,k2⟩:=a4 v _ hv;refine ⟨.tuple [v,.int .i64 (mpos es i)],h.set b (.mp (l.set (mpos es i) (fr.op x,v))),.undef, ?_,s.upd hk rfl rfl _ ?_ hL,fin rfl hv⟩
   . rw [hop];simp only [zcz,h1,hpk,if_true,g1,a2];rw [Nat.zero_add]; rfl
   . simp only [Obj.ok];exact ⟨b,_,rfl,by rw [za.get_set,if_pos rfl],k1,k2⟩
theorem zuZ {B:Type} {K:Rep A} {R:Rep B} {mt:TypeId} {m x y:Operand} {b:Nat} {es:List (A×B)} {i:A} {w w0:B} (kk:Nat) (hk:L[kk]?=Ob (.map b,.mp K R (mset es i w0))) (hw:Want ops M Od o.guard) (ho:o.op=.entryStore mt m x y) (hd:o.dst=Oe)
 (hmx:Opd M m (.raw (.map b))) (hx:Opd M x (.raw (.int .i64 (mpos es i:Int)))) (hy:Opd M y (.val R w)) {L':Own} (hL:zeQ L kk (.map b,.mp K R (mset es i w))=Ob L') (r:zr C T d ops rest M L' Q):zr C T d ops (o::rest) M L Q:=by
 refine ziy (.w (by rw [ho]; rfl) (λt a q=>by rw [ho] at q; cases q) (by rw [ho]; rfl) (λq=>by rw [ho] at q; cases q)) (λz fr h s=>by
  rw [show foot fr.op o=⟨[],Oc,zN (fr.op m),Oc⟩ by unfold foot; rw [ho]];exact ⟨λb hb=>(nomatch hb),λb' hb=>zet s hk rfl b' (by simpa [zN,hmx.raw s.fr] using hb)⟩) hw hd (λz fr h s=>?_) r
 have hob:=s.own.ok _ (List.mem_of_getElem? hk);simp only [Obj.ok] at hob;obtain ⟨b',l,e,g1,g2,g3⟩:=hob;cases e;obtain ⟨kv,v0,q1,q2⟩:=zlO (hy.val s.fr) ⟨g2,g3⟩;refine ⟨.tuple [],h.set b (.mp (l.set (mpos es i) (kv,fr.op y))), ?_,s.upd hk rfl rfl _ ?_ hL⟩
 . rw [ho,show aop T fr.op h (.entryStore mt m x y)=zfn (zbn (fr.op m) (fr.op x) (fr.op y) h) from rfl,hmx.raw s.fr,hx.raw s.fr];show zfn (zbn (.map b) (.int .i64 (Int.ofNat (mpos es i))) (fr.op y) h)=_;simp only [zbn,g1,q1];rfl
 . simp only [Obj.ok];exact ⟨b,_,rfl,by rw [za.get_set,if_pos rfl],q2.1,q2.2⟩
theorem zmC {B:Type} {K:Rep A} {R:Rep B} {mt et:TypeId} {m kv:zb} {l:List (zb×zb)} {es:List (A×B)} {i:A} {w0:B} (hm:Mp T mt K et) (hz:Zr T et R w0) (hkv:TV K z kv i) (hr:zg5 K R z l es)
 (hg:(m=.nm/\l=[])\/∃ b,m=.map b/\h.get b=Ob (.mp l)) (ok:Bool) :
 ∃ v,alookup T mt m kv ok h=Ob (if ok then .tuple [v,.bool (mget es i).isSome] else v)/\TV R z v ((mget es i).getD w0):=by
 obtain ⟨kt,h1,h2⟩:=hm.und;have hpk:=h2.plain z _ i hkv;obtain ⟨zv,z1,z2⟩:=hz.zero;rcases hg with ⟨rfl,rfl⟩ | ⟨b,rfl,g⟩
 . have:es=[]:=List.eq_nil_of_length_eq_zero hr.1.symm;subst this;refine ⟨zv, ?_,by simp only [mget,Option.getD_none]; exact z2 z⟩;simp only [alookup,h1,hpk,if_true,afind,z1,mget];cases ok<;>rfl
 . rcases ziA (n:=0) h2 hkv hr with ⟨a1,_,a2,_⟩ | ⟨v,y',a1,a2,a3,_⟩
   . refine ⟨zv, ?_,by rw [a1]; exact z2 z⟩;simp only [alookup,h1,hpk,if_true,g,a2,z1,a1];cases ok<;>rfl
   . refine ⟨v, ?_,by rw [a1]; exact a3⟩;simp only [alookup,h1,hpk,if_true,g,a2,a1];cases ok<;>rfl
theorem zu0 {B:Type} {K:Rep A} {R:Rep B} {mt et:TypeId} {b:Nat} {es:List (A×B)} {kv:zb} {i:A} {w0:B} {kk:Nat} (hm:Mp T mt K et) (hz:Zr T et R w0) (hk:L[kk]?=Ob (.map b,.mp K R es)) (hkv:TV K z kv i) (ok:Bool) (s:StZ C M L z fr h) :
 ∃ v,alookup T mt (.map b) kv ok h=Ob (if ok then .tuple [v,.bool (mget es i).isSome] else v)/\TV R z v ((mget es i).getD w0):=by
 have hob:=s.own.ok _ (List.mem_of_getElem? hk);simp only [Obj.ok] at hob;obtain ⟨b',l,e,g1,g2,g3⟩:=hob;cases e;exact zmC hm hz hkv ⟨g2,g3⟩ (.inr ⟨b,rfl,g1⟩) ok
theorem zzU {B:Type} {K:Rep A} {R:Rep B} {mt et:TypeId} {m x:Operand} {b:Nat} {es:List (A×B)} {i:A} {w0:B} (kk:Nat) (hls:d=Oe) (hm:Mp T mt K et) (hz:Zr T et R w0) (hk:L[kk]?=Ob (.map b,.mp K R es)) (hw:Want ops M Od o.guard) (ho:o.op=.lookup mt m x Oc) (hd:o.dst=Ob t)
 (hmx:Opd M m (.raw (.map b))) (hx:Opd M x (.val K i)) (r:zr C T d ops rest ((t,.val R ((mget es i).getD w0))::M) L Q):zr C T d ops (o::rest) M L Q:=by
 subst hls;intro fr h ⟨z,s⟩;obtain ⟨v,e1,e2⟩:=zu0 hm hz hk (hx.val s.fr) Oc s;have ha:aop T fr.op h o.op=Ob (.val v h):=by
  rw [ho]; simp only [aop,hmx.raw s.fr,e1,zae,Option.map,Bool.false_eq_true,if_false]
 simp only [wX,hw.ok s.fr,ha,hd,zbl];exact r _ _ ⟨z,s.set (by simp only [TE.ok]; exact e2)⟩
theorem znW (ev:Operand->zb) {mt:TypeId} {m x:Operand} {ok:Bool} (ho:o.op=.lookup mt m x ok):foot ev o=⟨zN (ev m),Oc,[],Oc⟩:=by unfold foot; rw [ho]
theorem lookq {B:Type} {K:Rep A} {R:Rep B} {mt et:TypeId} {m x:Operand} {es:List (A×B)} {i:A} {w0:B} {ok:Bool} (hm:Mp T mt K et) (hz:Zr T et R w0) (ho:o.op=.lookup mt m x ok)
 (hmx:Opd M m (.val (zoC K R) es)) (hx:Opd M x (.val K i)) :
 Rd C d ops rest M L o/\(∀ z fr h,StZ C M L z fr h->zjz z h (foot fr.op o))/\∀ z fr h,StZ C M L z fr h->∃ v,aop T fr.op h o.op=Ob (.val (if ok then .tuple [v,.bool (mget es i).isSome] else v) h)/\TV R z v ((mget es i).getD w0):=by
 have key:∀ z fr h,StZ C M L z fr h->∀ b,b∈zN (fr.op m)->z b≠Oe/\b<h.next:=by
  intro z fr h s b hb;rcases zwo (hmx.val s.fr) with ⟨q,_⟩ | ⟨c,l,q,q2,_⟩
  . rw [q] at hb; cases hb
  . rw [q] at hb;have:b=c:=by simpa [zN] using hb
    subst this;exact ⟨by rw [q2]; exact λe=>(nomatch e),(s.sub _ _ q2).2⟩
 refine ⟨.f λz fr h s=>?_,λz fr h s=>?_,λz fr h s=>?_⟩
 . rw [znW _ ho];exact ⟨rfl,rfl,λb hb=>(key z fr h s b hb).1,λq=>by rw [ho] at q; cases q⟩
 . rw [znW _ ho];exact ⟨λb hb=>(key z fr h s b hb).2,λb hb=>(nomatch hb)⟩
 . rcases zwo (hmx.val s.fr) with ⟨q,rfl⟩ | ⟨c,l,q,q2,q3⟩
   . obtain ⟨v,e1,e2⟩:=zmC (h:=h) (m:=fr.op m) hm hz (hx.val s.fr) (l:=[]) (es:=([]:List (A×B))) ⟨rfl,λi p q hp=>by simp at hp⟩ (.inl ⟨q,rfl⟩) ok;exact ⟨v,by rw [ho]; simp only [aop,e1,zae,Option.map],e2⟩
   . obtain ⟨v,e1,e2⟩:=zmC (h:=h) (m:=fr.op m) hm hz (hx.val s.fr) q3 (.inr ⟨c,q,(s.sub _ _ q2).1⟩) ok;exact ⟨v,by rw [ho]; simp only [aop,e1,zae,Option.map],e2⟩
theorem zxo {B:Type} {K:Rep A} {R:Rep B} {mt et:TypeId} {m x:Operand} {es:List (A×B)} {i:A} {w0:B} (hm:Mp T mt K et) (hz:Zr T et R w0) (hw:Want ops M Od o.guard) (ho:o.op=.lookup mt m x Oc) (hd:o.dst=Ob t)
 (hmx:Opd M m (.val (zoC K R) es)) (hx:Opd M x (.val K i)) (r:zr C T d ops rest ((t,.val R ((mget es i).getD w0))::M) L Q):zr C T d ops (o::rest) M L Q:=by
 obtain ⟨q1,q2,q3⟩:=lookq (C:=C) (d:=d) (ops:=ops) (rest:=rest) (L:=L) hm hz ho hmx hx;refine zgh q1 q2 hw hd (λz fr h s=>?_) r;obtain ⟨v,e1,e2⟩:=q3 z fr h s;exact ⟨v,by simpa using e1,by simp only [TE.ok]; exact e2⟩
theorem StZ.freezem {A B:Type} {K:Rep A} {R:Rep B} {es:List (A×B)} {b:Nat} (s:StZ C M L z fr h) {k:Nat} {L':Own} (hk:L[k]?=Ob (.map b,.mp K R es)) (hL:zcW L k=Ob L'):∃ z',z.le z'/\StZ C M L' z' fr h/\TV (zoC K R) z' (.map b) es:=by
 have ho:=s.own.ok _ (List.mem_of_getElem? hk);simp only [Obj.ok] at ho;obtain ⟨b',l,e,h2,h3,h5⟩:=ho;cases e;obtain ⟨o1,o2,o3⟩:=s.own.out _ (List.mem_of_getElem? hk) b (by simp [zfl,zhy]);have hle:z.le (z.add b (.mp l)):=zjA o1;have s':=s.drop hL;have hne:∀ p∈L',∀ c,c∈zfl p->c≠b:=by
  intro p hp c hc e;subst e;rw [ziv hL] at hp;obtain ⟨j,hj,hjp⟩:=List.getElem_of_mem hp;have hj':(L.eraseIdx k)[j]?=Ob p:=by rw [← hjp]; exact List.getElem?_eq_getElem _
  rw [List.getElem?_eraseIdx] at hj';split at hj'
  . have:=zdE s.own.nodup hj' hk hc (by simp [zfl,zhy]); omega
  . have:=zdE s.own.nodup hj' hk hc (by simp [zfl,zhy]); omega
 refine ⟨z.add b (.mp l),hle,{ zle:=s.zle.trans hle,sub:=?_,old:=?_,fr:=s.fr.mono hle,own:=⟨λp hp=>Obj.ok_mono hle (λ_ _=>rfl) (s'.own.ok p hp),λp hp c hc=>?_,s'.own.nodup⟩,chg:=s.chg }, ?_⟩
 . intro c y hc;by_cases e:c=b
   . subst e; rw [ziw] at hc; cases hc; exact ⟨h2,o2⟩
   . rw [add_ne e] at hc; exact s.sub c y hc
 . intro c hc hB;rw [add_ne]
   . exact s.old c hc hB
   . intro e; subst e;rcases o3 with q | q
     . omega
     . exact hB q
 . obtain ⟨q1,q2,q3⟩:=s'.own.out p hp c hc;exact ⟨by rw [add_ne (hne p hp c hc)]; exact q1,q2,q3⟩
 . exact zsy ziw (zg5.mono hle ⟨h3,h5⟩)
theorem znX {b n:Nat} (hl:look M n=Ob (.raw (.map b))):∀ z fr h,StZ C M L z fr h->∃ z',z.le z'/\StZ C ((n,.val zjD (.map b))::M) L z' fr h:=λz fr h s=>by
 have h1:=s.fr _ _ hl;simp only [TE.ok] at h1;exact ⟨z,.refl _,{ s with fr:=zi9 s.fr (by simp only [TE.ok]; rw [h1]; exact ⟨⟨rfl,rfl,rfl⟩,rfl⟩) }⟩
theorem zu1 {v:zb}:∀ z c,(TE.val zjD v).ok z c->(TE.raw v).ok z c:=λz c h=>by
 simp only [TE.ok] at h ⊢;exact zsr h
def zeU {A:Type} (R:Rep A):Rep (Option A):=
 ⟨1,Oc,λz cs x=>(x=Oe/\cs=[.nq])\/∃ a,x=Ob a/\(zaO R).rel z cs a,λz cs x q=>by
  rcases q with ⟨_,rfl⟩ | ⟨a,_,q⟩
  . rfl
  . exact (zaO R).len z cs a q,
  λz z' cs x e q=>q.imp id λ⟨a,h1,h2⟩=>⟨a,h1,(zaO R).mono z z' cs a e h2⟩,λ_=>rfl,λz cs x q=>by
   rcases q with ⟨_,rfl⟩ | ⟨a,_,q⟩
   . rfl
   . exact (zaO R).ones z cs a q⟩
theorem zce {A:Type} {R:Rep A}:(TE.val (zeU R) Oe).ok z .nq:=by
 simp only [TE.ok];exact ⟨.inl ⟨rfl,rfl⟩,rfl⟩
theorem zkE {A:Type} {R:Rep A} {a:A} {n:Nat} (hl:look M n=Ob (.val (zaO R) a)):∀ z fr h,StZ C M L z fr h->∃ z',z.le z'/\StZ C ((n,.val (zeU R) (Ob a))::M) L z' fr h:=λz fr h s=>by
 have h1:=s.fr _ _ hl;simp only [TE.ok] at h1;exact ⟨z,.refl _,{ s with fr:=zi9 s.fr (by simp only [TE.ok]; exact ⟨.inr ⟨a,rfl,h1.rel⟩,h1.agg⟩) }⟩
theorem zb7 {A:Type} {R:Rep A} {x:Option A} {a:A} {n:Nat} (hx:x=Ob a) (hl:look M n=Ob (.val (zeU R) x)):∀ z fr h,StZ C M L z fr h->∃ z',z.le z'/\StZ C ((n,.val (zaO R) a)::M) L z' fr h:=λz fr h s=>by
 have h1:=s.fr _ _ hl;simp only [TE.ok] at h1;subst hx;exact ⟨z,.refl _,{ s with fr:=zi9 s.fr (by
  simp only [TE.ok];rcases h1.rel with ⟨q,_⟩ | ⟨b,q,h2⟩
  . cases q
  . cases q; exact ⟨h2,h1.agg⟩) }⟩
end
abbrev w64 (n:Int):Int:=IntKind.i64.wrap n
theorem okn {z:Store}:zG z [] []:=by simp only [zG]
theorem okint {z:Store} {k:IntKind} {es:List TE} {vs:List zb} (h:zG z es vs):zG z (.val (zi k) 0::es) (.int k 0::vs):=by
 simp only [zG,TE.ok];exact ⟨_,_,rfl,zcc (by cases k<;>decide) (by cases k<;>decide),h⟩
theorem okbool {z:Store} {es:List TE} {vs:List zb} (h:zG z es vs):zG z (.val zaS Oc::es) (.bool Oc::vs):=by
 simp only [zG,TE.ok];exact ⟨_,_,rfl,zfG,h⟩
theorem oknil {A:Type} {R:Rep A} {z:Store} {es:List TE} {vs:List zb} (h:zG z es vs):zG z (.val (ze R) []::es) (.nsz::vs):=by
 simp only [zG,TE.ok];exact ⟨_,_,rfl,zbo zi7,h⟩
theorem okraw {z:Store} {v:zb} {es:List TE} {vs:List zb} (h:zG z es vs):zG z (.raw v::es) (v::vs):=by
 simp only [zG,TE.ok];exact ⟨_,_,rfl,rfl,h⟩
end Go.Ai.Sx
namespace Go.Ai
open Go.RowKit
structure zud (A:Type) where
 rel:Store->List zb->A->Prop
 mono:∀ z z' as x,z.le z'->rel z as x->rel z' as x
def zBj:zud Unit:=⟨λ_ as _=>as=[],λ_ _ _ _ _ h=>h⟩
def zrd {A B:Type} (R:Rep A) (S:zud B):zud (A×B):=
 ⟨λh as x=>∃ a rest,as=a::rest/\TV R h a x.1/\S.rel h rest x.2,λ_ _ _ _ e h=>let ⟨a,rest,h1,h2,h3⟩:=h; ⟨a,rest,h1,h2.mono e,S.mono _ _ _ _ e h3⟩⟩
def flat (P:Program) (t:TypeId):Bool:=match P.underlying t with | some (.int _) | some .bool | some (.slice _) | some (.struct _)=>Od | _=>Oc
def znY (P:Program) {A:Type} (ts:List TypeId) (S:zud A):Prop:=
 ∀ (H:Type) (enc:TypeId×Value->H) (W:World) (base:Nat) (vs:List Value) (ds:List (DataW H)) (ps:List MemPlace),0<W.heap.size ->
  (∀ (j:Nat) t v,ts[j]?=Ob t->vs[j]?=Ob v->Value.okWide P W .any base t v)->DataW.TrodAll enc P W 0 (λ_=>Od) Od ts vs ds ps->∀ (V:Emb) (h:za),zeH W.heap.size V h W->znH V h ->
   ∃ V' h' as x,Lay W V h V' h'/\zcB V' as vs/\S.rel h'.st as x
section
variable {P:Program}
theorem zre:znY P [] zBj:=by
 intro H enc W base vs ds ps _ _ hd V h hr hn;obtain ⟨rfl,_⟩:=ChangeShapes.trodAll_nil hd;exact ⟨V,h,[],(),⟨.refl _,hr,hn,.refl _⟩,.nil _,rfl⟩
theorem zgU {A B:Type} {t:TypeId} {ts:List TypeId} {R:Rep A} {S:zud B} (ho:Opens P t R) (hf:flat P t=Od) (hs:znY P ts S):znY P (t::ts) (zrd R S):=by
 intro H enc W base vs ds ps hpos hok hd V h hr hn;obtain ⟨v,vs',d,ds',p,q,rfl,rfl,rfl,h1,h2⟩:=ChangeShapes.trodAll_cons hd;obtain ⟨V1,h1',a,x,l1,r1,q1⟩:=zsb ho hpos (hok 0 t v rfl rfl) hf h1 hr hn;obtain ⟨V2,h2',as,y,l2,r2,q2⟩:=hs H enc W base vs' ds' q hpos (λj t' v' ht hv=>hok (j+1) t' v' (by simpa using ht) (by simpa using hv)) h2 V1 h1' l1.heap l1.none;exact ⟨V2,h2',a::as,(x,y),l1.trans l2,.cons (r1.mono l2.ext) r2,a,as,rfl,q1.mono l2.grow.st,q2⟩
theorem ziB {H:Type} {enc:TypeId×Value->H} (hl:laidOutB P=Od) {W W':World} (hb:Below W.heap.size W W'):∀ {ts:List TypeId} {vs:List Value} {ds:List (DataW H)} {ps:List MemPlace},(∀ t∈ts,P.readableRec t=Od/\t<P.types.size) ->
    DataW.TrodAll enc P W 0 (λ_=>Od) Od ts vs ds ps->DataW.TrodAll enc P W' 0 (λb=>decide (b<W.heap.size)) Od ts vs ds ps
  | [],[],[],_,_,h=>h
  | t::ts,v::vs,d::ds,ps,hts,⟨p,q,h1,h2,e⟩=>by
    refine ⟨p,q, ?_,ziB hl hb (λt ht=>hts t (List.mem_cons_of_mem _ ht)) h2,e⟩;obtain ⟨hr,hrow⟩:=hts t (List.mem_cons_self ..);refine Below.trod hl hr hrow h1 hb ?_;have h3:DataW.TrodAll enc P W 0 (λ_=>Od) Od [t] [v] [d] p:=⟨p,[],h1,rfl,by simp⟩;exact DataW.TrodAll.lt h3
  | [],_::_,_,_,_,h=>h.elim
  | [],[],_::_,_,_,h=>h.elim
  | _::_,[],_,_,_,h=>h.elim
  | _::_,_::_,[],_,_,h=>h.elim
end
theorem znZ {T:Tab} {C:Checked} (ok:T.Ok C.prog) {f:FuncId} {fn:Func} {s:ChangeSpec} {A:Type} {S:zud A} {tb:TypeId}
 (hl:laidOutB C.prog=Od) (hvars:s.vars=[]) (hrt:fn.resultTypes=#[tb]) (hb:C.prog.underlying tb=Ob .bool) (hts:∀ t∈fn.params.toList,C.prog.readableRec t=Od/\t<C.prog.types.size)
 (hfn:∀ (H:Type) (ds:List (DataW H)),ds.length=fn.params.size->s.fn H ds={ results:=[.lit (.bool Od)],args:=ds })
 (ho:znY C.prog fn.params.toList S)
 (law:∀ (h:za) (as:List zb) (x:A),S.rel h.st as x->h.wm<=h.next->∃ n h',zeL T (aexec T n) f as h=Ob (.ret (.bool Od),h'))
 {H:Type} {enc:TypeId×Value->H} {W:World} {base:Nat} {args:Array Value} {ds gs:List (DataW H)} {before:List MemPlace} (hpos:0<W.heap.size)
 (hval:∀ (j:Nat) t v,fn.params[j]?=Ob t->args[j]?=Ob v->Value.okWide C.prog W .any base t v)
 (hW:DataW.Whole enc C.prog fn.params.toList s.vars Oc W args.toList ds gs before) :
 Calls C.prog f args W λe W'=>∃ v,e=.returned v/\s.post enc C.prog fn Oc Od Oc Oc W args v W':=by
 have hW0:=hW;obtain ⟨p,q,hA,hV,rfl,_,_⟩:=hW;have hr0:zeH W.heap.size (λ_=>Oe) ⟨.leaf,0,0⟩ W:=⟨⟨λ_ _ h=>(nomatch h),λ_ _ h=>(nomatch h),λ_ _ _ _ h=>(nomatch h),Nat.le_refl _⟩,λ_ _ h=>(nomatch h)⟩;obtain ⟨V,h,as,x,l,r,hx⟩:=ho H enc W base args.toList ds p hpos (λj t v ht hv=>hval j t v (by simpa using ht) (by simpa using hv)) hA _ _ hr0 (λ_ _ h=>(nomatch h));obtain ⟨n,h',hrun⟩:=law h as x hx (l.grow.wm (Nat.le_refl 0));refine (zmh ok hrun r l.heap).mono λe W' he=>?_;obtain ⟨V',hr',ht,hend⟩:=he;rcases hend with ⟨v,v',hv,rfl,hrel⟩ | ⟨v,v',hv,_⟩
 case inr=>cases hv
 cases hv;cases hrel;refine ⟨_,rfl, ?_⟩;have hbelow:Below W.heap.size W W':=⟨ht.os,ht.tape,ht.output,ht.size,λk hk=>ht.frame k hk (λb l' hb ho'=>absurd ho' (l.none b l' hb))⟩;have hgs:gs=[]/\q=[]:=by
  rw [hvars] at hV;cases gs with
  | nil=>exact ⟨rfl,hV⟩
  | cons _ _=>exact hV.elim
 obtain ⟨rfl,rfl⟩:=hgs;have hlen:=trodAll_length hA;have hres:s.fn H (ds++[])={ results:=[.lit (.bool Od)],args:=ds }:=by rw [List.append_nil]; exact hfn H ds (by rw [hlen.2]; simp)
 refine ⟨ds,[],p++[],[],p,[],hW0, ?_, ?_, ?_,hbelow.frame _,λq=>by cases q⟩
 . rw [hres,hrt];exact ⟨[],[],RowKit.shut_bool hb Od,rfl,rfl⟩
 . rw [hres]; exact ziB hl hbelow hts hA
 . rw [hres,hvars]; exact rfl
end Go.Ai
namespace Go.Ai.Sx
def AOk {A:Type} (S:zud A) (ts:A->List TE):Prop:=∀ z vs x,S.rel z vs x->zG z (ts x) vs
theorem zxp:AOk zBj (λ_=>[]):=λz vs x h=>by
 simp only [zG]; exact h
theorem zjY {A B:Type} {R:Rep A} {S:zud B} {ts:B->List TE} (h:AOk S ts):AOk (zrd R S) (λx=>.val R x.1::ts x.2):=λz vs x hr=>by
 obtain ⟨a,rest,rfl,h1,h2⟩:=hr;simp only [zG,TE.ok];exact ⟨a,rest,rfl,h1,h _ _ _ h2⟩
theorem zxq {T:Tab} {g:FuncId} {A:Type} {S:zud A} {ts:A->List TE} (ha:AOk S ts) (hf:∀ z vs x,S.rel z vs x->Fun T g (ts x) [.val zaS Od]):∀ (h:za) (as:List zb) (x:A),S.rel h.st as x->h.wm<=h.next->∃ n h',zeL T (aexec T n) g as h=Ob (.ret (.bool Od),h'):=by
 intro h as x hr hwm;obtain ⟨n,r,h',e,us,z',rfl,hl,_,_,_,_,hok,_⟩:=hf _ _ x hr h.st h as (zpY h) hwm (ha _ _ _ hr)
 match us,hl with
 | [u],_=>
  simp only [tes,zG,TE.ok] at hok;obtain ⟨v,vs,q,h1,_⟩:=hok;cases q;have:=zo1 h1;subst this;exact ⟨n,h',e⟩
end Go.Ai.Sx
namespace Go.Ai
def Tr.toList {α:Type}:Tr α->List (Nat×α)
 | .leaf=>[]
 | .node v l r=>(match v with | some x=>[(0,x)] | none=>[])++(l.toList.map λp=>(2*p.1+1,p.2))++(r.toList.map λp=>(2*p.1+2,p.2))
theorem Tr.mem_toList {α:Type}:∀ (t:Tr α) (n:Nat) (x:α),t.get n=Ob x->(n,x)∈t.toList
 | .leaf,n,x,h=>by simp [Tr.get] at h
 | .node v l r,0,x,h=>by
  have h:v=Ob x:=h;subst h;simp [Tr.toList]
 | .node v l r,m+1,x,h=>by
  rw [Tr.get_succ] at h;simp only [Tr.toList,List.mem_append,List.mem_map];split at h
  . rename_i hm;exact .inl (.inr ⟨_,Tr.mem_toList l _ _ h,by simp; omega⟩)
  . exact .inr ⟨_,Tr.mem_toList r _ _ h,by simp; omega⟩
def zwp {α:Type} (Q:Nat->α->Prop):List (Nat×α)->Prop
 | []=>True
 | p::l=>Q p.1 p.2/\zwp Q l
theorem zwp.get {α:Type} {Q:Nat->α->Prop}:∀ {l:List (Nat×α)},zwp Q l->∀ n x,(n,x)∈l->Q n x
 | _::_,h,n,x,hm=>by
  rcases List.mem_cons.1 hm with q | q
  . cases q; exact h.1
  . exact zwp.get h.2 n x q
def zn0 (P:Program) (t:Nat) (i:zrG):Prop:=
 P.underlying t=Ob i.desc/\∃ j,P.info? t=Ob j/\j.size=i.size/\j.bytes=i.bytes /\
  (∀ z,i.zero=Ob z->∃ zv,j.zero=Ob zv/\zhR zv=Ob z)/\(i.stood=Oc->P.stoodInHeld t=Oc)/\(i.eqg=Oc->P.eqGuardType P.depth t=Oc)
theorem zn1 {P:Program} {t:Nat} {j ju:TypeInfo} (h1:P.info? t=Ob j) (h2:P.underlying t=Ob ju.desc) :
 zn0 P t { desc:=ju.desc,size:=j.size,bytes:=j.bytes,zero:=j.zero.bind zhR,stood:=P.stoodInHeld t,eqg:=P.eqGuardType P.depth t }:=by
 refine ⟨h2,j,h1,rfl,rfl,λz hz=>?_,id,id⟩;exact Option.bind_eq_some_iff.1 hz
def zp5 (P:Program) (f:Nat) (F:Func):Prop:=
 P.funcs[f]? = some F ∧ (F.name == "runtime.NumGoroutine") = false ∧ (∀ c, F.body = some c → zcC F.ntmps c = true)
def zsz (F:Func):Bool:=match F.body with | some c=>zcC F.ntmps c | none=>Od
theorem zsA {P : Program} {f : Nat} {F : Func} (h1 : P.funcs[f]? = some F) (h2 : (F.name == "runtime.NumGoroutine") = false) (h3 : zsz F = true) : zp5 P f F := by
 refine ⟨h1,h2,fun c hc=>?_⟩;unfold zsz at h3;rw [hc] at h3;exact h3
theorem zu2 {P:Program} {T:Tab} (h1:zwp (zn0 P) T.types.toList) (h2:zwp (zp5 P) T.funcs.toList) (h3:P.follows .mixedOrders=Od) (h4:T.consts=.leaf) (h5:T.defs=.leaf:=by rfl):T.Ok P:=
 ⟨λt i h=>h1.get t i (Tr.mem_toList _ _ _ h),λf F h=>h2.get f F (Tr.mem_toList _ _ _ h),h3,λg v h=>(by rw [h4] at h; cases h),λf D h=>by rw [h5] at h; cases h⟩
end Go.Ai