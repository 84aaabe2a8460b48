/- Symbolic runs of the abstract interpreter: small steps for printed proofs; function values. -/
import Derived.Test.YtppebpagcocogaaGreatU4
import Derived.Test.YtppebpagcocogaaGreatU3
import Derived.HandedShaped
import Derived.Carry
import Derived.OpenShut
import Derived.JoinedOf
import Derived.ChangeCalls
import Derived.Test.YtppebpagcocogaaGreatU0
set_option linter.unusedSimpArgs false
set_option linter.unusedVariables false
set_option linter.unusedSectionVars false
namespace Go.Ai.Sx
abbrev big:Nat:=18446744073709551616
theorem bnd {α β:Type} {m:Option α} {k:α->Option β} {y:β} (h:m.bind k=some y):∃ x,m=some x/\k x=some y:=Option.bind_eq_some_iff.1 h
theorem zBi {β:Type} {c:Bool} {a b:Option β} {y:β} (h:cond c a b=some y) (q:c=true):a=some y:=by rw [q] at h; exact h
theorem zBj {β:Type} {c:Bool} {a b:Option β} {y:β} (h:cond c a b=some y) (q:c=false):b=some y:=by rw [q] at h; exact h
def alt {α β γ:Type} (f:α->γ) (g:β->γ):α⊕β->γ
 | .inl a=>f a
 | .inr b=>g b
abbrev XT (τ:Type):Type 1:=τ->zab×(List ze->Sts)
def zyM {α β:Type} (f:XT α) (g:XT β):XT (α⊕β)
 | .inl a=>f a
 | .inr b=>g b
theorem zrH {α β γ:Type} {f:α->Option γ} {g:β->Option γ} {a:α} {y:γ} (h:alt f g (.inl a)=some y):f a=some y:=h
theorem zrI {α β γ:Type} {f:α->Option γ} {g:β->Option γ} {b:β} {y:γ} (h:alt f g (.inr b)=some y):g b=some y:=h
theorem gt1 {b:Bool} (h:b=true):(b==true)=true:=by rw [h]; rfl
theorem gt0 {b:Bool} (h:b=false):(b==true)=false:=by rw [h]; rfl
theorem gf1 {b:Bool} (h:b=true):(b==false)=false:=by rw [h]; rfl
theorem gf0 {b:Bool} (h:b=false):(b==false)=true:=by rw [h]; rfl
def zc2 (k:IntKind) (a b:Int):Option Int:=if b=0 then none else some (k.wrap (a.tdiv b))
theorem zt6 {k:IntKind} {a b n:Int} (h:zc2 k a b=some n):Ar k a b .quo n:=by
 unfold zc2 at h;split at h
 . cases h
 . cases h; exact .quo (by assumption)
def zl5 (a b:Int):Option Int:=if b=0 then none else some (a.tmod b)
theorem zt7 {a b n:Int} (h:zl5 a b=some n):b≠0/\n=a.tmod b:=by
 unfold zl5 at h;split at h
 . cases h
 . cases h; exact ⟨by assumption,rfl⟩
def zoy (k:IntKind) (a b:Int):Option Int:=if 0<=b then some (a.fdiv (2 ^ (min b.toNat k.bits))) else none
theorem zt8 {k:IntKind} {a b n:Int} (h:zoy k a b=some n):0<=b/\n=a.fdiv (2 ^ (min b.toNat k.bits)):=by
 unfold zoy at h;split at h
 . cases h; exact ⟨by assumption,rfl⟩
 . cases h
def slO {A:Type} (xs:List A) (i j:Int):Option (List A):=if 0<=i/\i<=j/\j<=zm xs then some ((xs.take j.toNat).drop i.toNat) else none
theorem zwz {A:Type} {xs ys:List A} {i j:Int} (h:slO xs i j=some ys):(0<=i/\i<=j/\j<=zm xs)/\ys=(xs.take j.toNat).drop i.toNat:=by
 unfold slO at h;split at h
 . cases h; exact ⟨by assumption,rfl⟩
 . cases h
section
variable {C:Ctx} {T:Tab} {d:Option (List Nat)} {ops rest:List Oper} {Γ:Env} {L:Own} {Q:zf->za->Prop} {P:zab->zf->za->Prop} {o:Oper} {t:Nat} {z:Store} {fr:zf} {h:za}
theorem zzW {c x y:Operand} {e:TE} {b:Bool} (hb:b=true) (hw:Want ops Γ true o.guard) (ho:o.op=.pick c x y) (hd:o.dst=some t) (hc:Opd Γ c (.val zau b)) (hx:Opd Γ x e)
 (r:zr C T d ops rest ((t,e)::Γ) L Q):zr C T d ops (o::rest) Γ L Q:=by subst hb; exact zwm hw ho hd hc hx r
theorem zzX {c x y:Operand} {e:TE} {b:Bool} (hb:b=false) (hw:Want ops Γ true o.guard) (ho:o.op=.pick c x y) (hd:o.dst=some t) (hc:Opd Γ c (.val zau b)) (hy:Opd Γ y e)
 (r:zr C T d ops rest ((t,e)::Γ) L Q):zr C T d ops (o::rest) Γ L Q:=by subst hb; exact zwn hw ho hd hc hy r
theorem zyN {u u':TypeId} {k:IntKind} {x y:Operand} {a b n:Int} (hn:zl5 a b=some n) (hw:Want ops Γ true o.guard) (ho:o.op=.binOp .rem u x y u') (hd:o.dst=some t) (hx:Opd Γ x (.val (zj k) a)) (hy:Opd Γ y (.val (zj k) b))
 (r:zr C T d ops rest ((t,.val (zj k) n)::Γ) L Q):zr C T d ops (o::rest) Γ L Q:=by
 obtain ⟨h1,rfl⟩:=zt7 hn; exact zzL hw ho hd hx hy h1 r
theorem zyO {u u':TypeId} {k k':IntKind} {x y:Operand} {a b n:Int} (hn:zoy k a b=some n) (hw:Want ops Γ true o.guard) (ho:o.op=.binOp .shr u x y u') (hd:o.dst=some t) (hx:Opd Γ x (.val (zj k) a)) (hy:Opd Γ y (.val (zj k') b))
 (r:zr C T d ops rest ((t,.val (zj k) n)::Γ) L Q):zr C T d ops (o::rest) Γ L Q:=by
 obtain ⟨h1,rfl⟩:=zt8 hn; exact zzM hw ho hd hx hy h1 r
inductive Bnd (Γ:Env):Option Operand->Int->Int->Prop where
 | n {i:Int}:Bnd Γ none i i
 | s {y:Operand} {k:IntKind} {i j:Int} (h:Opd Γ y (.val (zj k) i)):Bnd Γ (some y) j i
theorem zzY {A:Type} {R:Rep A} {x:Operand} {lo hi:Option Operand} {xs ys:List A} {st et:TypeId} {i j:Int} (hsl:Sl T st et R) (hn:slO xs i j=some ys) (hw:Want ops Γ true o.guard) (ho:o.op=.slice st x lo hi none) (hd:o.dst=some t)
    (hx:Opd Γ x (.val (zb R) xs)) (hlo:Bnd Γ lo 0 i) (hhi:Bnd Γ hi (zm xs) j) (r:zr C T d ops rest ((t,.val (zb R) ys)::Γ) L Q):zr C T d ops (o::rest) Γ L Q:=by
  obtain ⟨h1,rfl⟩:=zwz hn;cases hlo with
  | n=>
    cases hhi with
    | n=>exact zl3 (kl:=.i64) (kh:=.i64) hsl h1 hw ho hd hx (.inl ⟨rfl,rfl⟩) (.inl ⟨rfl,rfl⟩) r
    | s h=>exact zl3 (kl:=.i64) hsl h1 hw ho hd hx (.inl ⟨rfl,rfl⟩) (.inr ⟨_,rfl,h⟩) r
  | s h'=>
    cases hhi with
    | n=>exact zl3 (kh:=.i64) hsl h1 hw ho hd hx (.inr ⟨_,rfl,h'⟩) (.inl ⟨rfl,rfl⟩) r
    | s h=>exact zl3 hsl h1 hw ho hd hx (.inr ⟨_,rfl,h'⟩) (.inr ⟨_,rfl,h⟩) r
theorem zj3 {id:Nat} {b:Code} {P2:zab->zf->za->Prop} (e:P (.exit id)=λfr h=>Run T b fr h P2) (r:zdX C T b Γ L P2):zdX C T (.exit id) Γ L P:=λfr h s=>zpl (by rw [e]; exact r fr h s)
theorem zpw {b:Code} {P2:zab->zf->za->Prop} (e:Q=λfr h=>Run T b fr h P2) (r:zdX C T b Γ L P2):zr C T d ops [] Γ L Q:=ziw λfr h s=>by rw [e]; exact r fr h s
theorem ziz {b:Code} {P2:zab->zf->za->Prop} (e:P .normal=λfr h=>Run T b fr h P2) (r:zdX C T b Γ L P2):zdX C T .skip Γ L P:=λfr h s=>zpk (by rw [e]; exact r fr h s)
theorem zjm {b:Code} {l:Nat} {P2:zab->zf->za->Prop} (e:P .normal=λfr h=>Run T b fr h P2) (r:zdX C T b Γ L P2):zdX C T (.label l) Γ L P:=λfr h s=>zrn (by rw [e]; exact r fr h s)
abbrev gh (g:List ze) (i:Nat):ze:=g.getD i .undef
def zyP (T:Tab) (z:Store) (c:ze) (as:List TE) (rs:List RE):Prop:=
 ∃ g pre post,c=.func (.func g) pre post/\T.consts.get g=none/\∀ z1 h vs,z.le z1->z1.Sub h->h.wm<=h.next->zz z1 as vs ->
  ziq T g (pre++vs++post) h λr h'=>∃ us z',r=.ret (packed us)/\us.length=rs.length/\Quiet h h'/\z1.le z'/\z'.Sub h'/\(∀ b,b<h.next->z' b=z1 b)/\zz z' (tes rs us) us/\zfk ⟨z1,h,[]⟩ z' h' (owns rs us)
theorem zyP.mono {z z':Store} {c:ze} {as:List TE} {rs:List RE} (hz:z.le z') (f:zyP T z c as rs):zyP T z' c as rs:=
 let ⟨g,pre,post,h1,h2,h3⟩:=f; ⟨g,pre,post,h1,h2,λz1 h vs hl=>h3 z1 h vs (hz.trans hl)⟩
def rFn (T:Tab) (X Y:Type) (ins:X->List TE) (outs:Y->List RE):Rep (X->Option Y):=
 ⟨1,false,λz cs f=>∃ c,cs=[c]/\(c.one=true/\c.isAgg=false)/\∀ x y,f x=some y->zyP T z c (ins x) (outs y),λ_ _ _ h=>by obtain ⟨v,h,_⟩:=h; rw [h]; rfl,
  λ_ _ _ _ e h=>let ⟨c,h1,h2,h3⟩:=h; ⟨c,h1,h2,λx y q=>(h3 x y q).mono e⟩,λ_=>rfl,λ_ _ _ h=>by obtain ⟨v,h,e,_⟩:=h; rw [h]; simp [e.1]⟩
theorem zzZ {T:Tab} {X Y:Type} {ins:X->List TE} {outs:Y->List RE} {z:Store}:(rFn T X Y ins outs).rel z [.nilfunc] λ_=>none:=⟨_,rfl,⟨rfl,rfl⟩,λ_ _ h=>(nomatch h)⟩
theorem zz0 {X Y:Type} {ins:X->List TE} {outs:Y->List RE} {v:ze} {f:X->Option Y} (q:TV (rFn T X Y ins outs) z v f):∀ x y,f x=some y->zyP T z v (ins x) (outs y):=by
 obtain ⟨h1,h2⟩:=q;obtain ⟨w,h3,h4,h5⟩:=h1;cases v<;>simp_all [ze.isAgg,ze.cells,rFn]
theorem zwA {X Y:Type} {ins:X->List TE} {outs:Y->List RE} {c:Call} {p:Operand} {f:X->Option Y} {x:X} {y:Y} (hf:f x=some y) (hw:Want ops Γ true o.guard) (ho:o.op=.call c) (hd:o.dst=some t) (hc:c.callee=.value p) (hx:Opd Γ p (.val (rFn T X Y ins outs) f)) (hvs:Opds Γ c.args.toList (ins x))
 (hq:RQ (outs y) L λes L'=>zr C T d ops rest ((t,zow es)::Γ) L' Q):zr C T d ops (o::rest) Γ L Q:=by
 refine zjY hw hd hq λz fr h s=>?_;obtain ⟨g,pre,post,e1,e2,e3⟩:=zz0 (hx.val s.fr) x y hf;refine ⟨.func (.func g) pre post,c.args.toList.map fr.op,by rw [ho]; simp only [aop,zcu,hc,e1],λh1 hn hg hwm=>?_⟩;have hsub:z.Sub h1:=λb y hb=>by rw [hg,hn]; exact s.sub b y hb
 refine zcw e2 ?_;refine (e3 z h1 _ (.refl _) hsub hwm (hvs.ok s.fr)).mono λr h' ⟨us,z',e1,hl,q,hz,hs,hold,hok,hown⟩=>⟨us,z',e1,hl,q,hz,hs, ?_,hok,hown⟩;rw [← hn]; exact hold
theorem zbF {es fs:List TE} {us vs:List ze} (h1:zz z es us) (h2:zz z fs vs):zz z (es++fs) (us++vs):=zdv.2 ⟨us,vs,rfl,h1,h2⟩
theorem zi4 {X Y:Type} (ins:X->List TE) (outs:Y->List RE) {f:X->Option Y} {g:FuncId} {first captured:Array Operand} {ps cs:List TE} (hF:∀ x y,f x=some y->Fun T g (ps++ins x++cs) (outs y)) (hcst:T.consts.get g=none) (hw:Want ops Γ true o.guard) (ho:o.op=.makeFunc (.func g) first captured) (hd:o.dst=some t) (h1:Opds Γ first.toList ps) (h2:Opds Γ captured.toList cs)
 (r:zr C T d ops rest ((t,.val (rFn T X Y ins outs) f)::Γ) L Q):zr C T d ops (o::rest) Γ L Q:=by
 refine zaj (by rw [ho]; rfl) hw hd (λz fr h s=>?_) r;refine ⟨.func (.func g) (first.toList.map fr.op) (captured.toList.map fr.op),by rw [ho]; rfl, ?_⟩;simp only [TE.ok];refine ⟨⟨_,rfl,⟨rfl,rfl⟩,λx y q=>⟨g,_,_,rfl,hcst,λz1 h' vs hl hs hwm hok=>?_⟩⟩,rfl⟩;exact hF x y q z1 h' _ hs hwm (zbF (zbF (zdg hl (h1.ok s.fr)) hok) (zdg hl (h2.ok s.fr)))
theorem zhZ {X Y:Type} {ins:X->List TE} {outs:Y->List RE} {f:X->Option Y} {g:FuncId} (hF:∀ x y,f x=some y->Fun T g (ins x) (outs y)) (hcst:T.consts.get g=none):∀ z,TV (rFn T X Y ins outs) z (.func (.func g) [] []) f:=λz=>
 ⟨⟨_,rfl,⟨rfl,rfl⟩,λx y q=>⟨g,[],[],rfl,hcst,λz1 h' vs hl hs hwm hok=>by rw [List.nil_append,List.append_nil]; exact hF x y q z1 h' _ hs hwm hok⟩⟩,rfl⟩
end
end Go.Ai.Sx
/- Symbolic runs of the abstract interpreter: arrays,rows held against nil. -/
namespace Go.Ai.Sx
section
variable {C:Ctx} {T:Tab} {d:Option (List Nat)} {ops rest:List Oper} {Γ:Env} {L:Own} {Q:zf->za->Prop} {P:zab->zf->za->Prop} {o:Oper} {t:Nat} {z:Store} {fr:zf} {h:za}
theorem zarr {A:Type} {R:Rep A} {x:A} {n:Nat} {c zc:List ze} (h:∀ z,R.rel z c x) (hz:copies n c=zc):∀ z,(zjT n R).rel z zc (List.replicate n x):=by
 intro z;subst hz;have hl:=R.len _ _ _ (h z);have hp:∀ i y,(List.replicate n x)[i]?=some y->R.rel z (((copies n c).drop (i*R.sz)).take R.sz) y:=by
  intro i y hi;have h1:=(List.getElem?_eq_some_iff.1 hi).1;rw [List.length_replicate] at h1;rw [List.getElem?_replicate,if_pos h1] at hi;cases hi;rw [← hl,zgD _ h1]; exact h z
 refine ⟨List.length_replicate,by rw [zem,hl], ?_,hp⟩;rcases Nat.eq_zero_or_pos R.sz with q | q
 . have:copies n c=[]:=List.length_eq_zero_iff.1 (by rw [zem,hl,q,Nat.mul_zero]);rw [this]; rfl
 . exact zix q (by rw [zem,hl,List.length_replicate]) hp
theorem zwB {A:Type} {R:Rep A} {x y:Operand} {xs:List A} {at_ et:TypeId} {n:Nat} {k:IntKind} {i:Int} {a:A} (har:Ar1 T at_ et n R) (hi:idx xs i=some a) (hw:Want ops Γ true o.guard) (ho:o.op=.index at_ x y) (hd:o.dst=some t)
    (hx:Opd Γ x (.val (zjT n R) xs)) (hy:Opd Γ y (.val (zj k) i)) (r:zr C T d ops rest ((t,.val R a)::Γ) L Q):zr C T d ops (o::rest) Γ L Q:=by
  refine zaj (by rw [ho]; rfl) hw hd (λz fr h s=>?_) r;obtain ⟨h0,h1,h2,h3⟩:=zfm hi;have hv:=hx.val s.fr;have hc:=hv.agg;cases hq:fr.op x with
  | agg cs=>
    rw [hq] at hv;obtain ⟨e1,e2,e3,e4⟩:=hv.rel;simp only [ze.cells] at e2 e3 e4;have hb:=zdZ (off:=0) (i:=i.toNat) (R:=R) (cells:=cs) (by rw [e1]; omega) h3;obtain ⟨u,h8,h9⟩:=zeu (cells:=cs) (off:=i.toNat*R.sz) har.sz har.agg (by omega) (e4 _ _ h3);refine ⟨u, ?_,by simp only [TE.ok]; exact h9⟩;rw [ho];simp only [aop,hq,hy.int s.fr,aindex,har.und,har.sz];rw [if_pos ⟨h0,by omega⟩,h8];rfl
  | _=>rw [hq] at hc; cases hc
theorem zpx {A:Type} {R:Rep A} {at_ et:TypeId} {n:Nat} {zc:List ze} {parts:Array (Nat×Operand)} {as:List A} (har:Ar1 T at_ et n R) (hz:zeR T at_=some (.agg zc)) (hzl:zc.length=n*R.sz) (hw:Want ops Γ true o.guard) (ho:o.op=.build at_ parts) (hd:o.dst=some t) (he:Elts Γ R 0 parts.toList as) (hn:as.length=n)
 (r:zr C T d ops rest ((t,.val (zjT n R) as)::Γ) L Q):zr C T d ops (o::rest) Γ L Q:=by
 refine zaj (by rw [ho]; rfl) hw hd (λz fr h s=>?_) r;obtain ⟨cells,h3,h4,_,h5⟩:=zjW he s.fr har.pos zc (by rw [hzl,← hn]; simp);refine ⟨.agg cells, ?_, ?_⟩
 . rw [ho];simp only [aop,abuild,hz,har.und,har.sz,ze.cells,h3,zS,Option.map]
 . simp only [TE.ok];have hp:∀ i x,as[i]?=some x->R.rel z ((cells.drop (i*R.sz)).take R.sz) x:=λi x hx=>by have:=h5 i x hx; rwa [Nat.zero_add] at this
   exact ⟨⟨hn,by simp only [ze.cells]; rw [h4,hzl],zix (l:=cells) har.pos (by rw [h4,hzl,hn]) hp,hp⟩,rfl⟩
theorem zt9 {A:Type} {R:Rep A} {at_ et:TypeId} {n:Nat} {x:A} {zc:List ze} (har:Ar1 T at_ et n R) (hz:zeR T at_=some (.agg zc)) (hx:∀ z,(zjT n R).rel z zc (List.replicate n x)) (hn:n<=maxLen) (hw:Want ops Γ true o.guard) (ho:o.op=.alloc at_) (hd:o.dst=some t)
 (r:∀ b,zr C T d ops rest ((t,.raw (.ptr b 0))::Γ) ((.slice b 0 n R.sz (some n),.row R (List.replicate n x))::L) Q):zr C T d ops (o::rest) Γ L Q:=by
 refine zfC hw (nf (by rw [ho]; rfl)) λz fr h s=>?_;have ha:aop T fr.op h o.op=some (.val (.ptr h.next 0) (h.push (.arr zc false))):=by rw [ho]; simp only [aop,zfF,hz,ze.cells]
 refine ⟨_,_,z,_,_,ha,nfo (by rw [ho]; rfl),.refl _, ?_,r h.next⟩;rw [hd,zaI];refine (s.pushOwn (v:=.slice h.next 0 n R.sz (some n)) (ob:=.row R (List.replicate n x)) _ rfl ?_).set (by simp only [TE.ok]);obtain ⟨e1,e2,_,e4⟩:=hx z;refine ⟨by rw [List.length_replicate]; exact hn,.inr ⟨h.next,0,some n,zc,by rw [List.length_replicate],by rw [za.get_push,if_pos rfl],by rw [List.length_replicate,e2]; omega,λc hc=>by cases hc; rw [List.length_replicate,e2]; omega,λi y hy=>by rw [Nat.zero_add]; exact e4 i y hy⟩⟩
theorem zyQ {A:Type} {R:Rep A} {x y:Operand} {xs:List A} {at_ et:TypeId} {n:Nat} {kk:IntKind} {i:Int} {a:A} {b:Nat} (k:Nat) (har:Ar1 T at_ et n R) (hk:L[k]?=some (.slice b 0 n R.sz (some n),.row R xs)) (hi:idx xs i=some a) (hw:Want ops Γ true o.guard) (ho:o.op=.indexAddr at_ x y) (hd:o.dst=some t)
 (hx:Opd Γ x (.raw (.ptr b 0))) (hy:Opd Γ y (.val (zj kk) i)) (r:zr C T d ops rest ((t,.elt (.slice b 0 n R.sz (some n)) i.toNat 0)::Γ) L Q):zr C T d ops (o::rest) Γ L Q:=by
 refine zaj (by rw [ho]; rfl) hw hd (λz fr h s=>?_) r;obtain ⟨h0,h1,h2,h3⟩:=zfm hi;have hr:=s.own.ok _ (List.mem_of_getElem? hk);simp only [Obj.ok] at hr;have hlen:xs.length=n:=by
  rcases hr.2 with ⟨q,_⟩ | ⟨b',off,cap,cells,q,_⟩
  . cases q
  . cases q; rfl
 refine ⟨.ptr b (0+i.toNat*R.sz), ?_,by simp only [TE.ok]; exact ⟨b,0,n,R.sz,some n,rfl,by simp⟩⟩;rw [ho];simp only [aop,hy.int s.fr,hx.raw s.fr,zde,har.und,har.sz];rw [if_pos (by exact ⟨h0,by omega⟩)];rfl
theorem zwC {A:Type} {R:Rep A} {x:Operand} {xs:List A} {at_ et:TypeId} {n:Nat} {b:Nat} (k:Nat) (hls:Listed d ops rest) (har:Ar1 T at_ et n R) (hk:L[k]?=some (.slice b 0 n R.sz (some n),.row R xs)) (hw:Want ops Γ true o.guard) (ho:o.op=.load at_ x) (hd:o.dst=some t)
 (hx:Opd Γ x (.raw (.ptr b 0))) (r:zr C T d ops rest ((t,.val (zjT n R) xs)::Γ) L Q):zr C T d ops (o::rest) Γ L Q:=by
 refine zeS (.l hls (by rw [ho]; rfl) (by rw [ho]; rfl)) (λz fr h s=>by
  rw [show foot fr.op o=⟨zK (fr.op x),false,[],false⟩ by unfold foot; rw [ho]];exact ⟨λb' hb=>zgX s hk rfl b' (by simpa [zK,hx.raw s.fr] using hb),λb hb=>(nomatch hb)⟩) hw hd (λz fr h s=>?_) r
 have hr:=s.own.ok _ (List.mem_of_getElem? hk);simp only [Obj.ok] at hr;rcases hr.2 with ⟨q,_⟩ | ⟨b',off,cap,cells,q,g1,g2,g3,g4⟩
 . cases q
 . cases q;have hcl:0+xs.length*R.sz<=cells.length:=g2;refine ⟨.agg ((cells.drop 0).take (xs.length*R.sz)), ?_, ?_⟩
   . rw [ho];simp only [aop,hx.raw s.fr,aload,g1,Go.Ai.apart,har.isagg,har.whole];rw [if_pos (by omega)];rfl
   . simp only [TE.ok];have hp:∀ i x,xs[i]?=some x->R.rel z ((((cells.drop 0).take (xs.length*R.sz)).drop (i*R.sz)).take R.sz) x:=by
      intro i x hi;have h6:=zdZ (off:=0) (i:=i) (R:=R) (cells:=cells.take (xs.length*R.sz)) (by simp; omega) hi;rw [List.drop_zero,List.drop_take,List.take_take,Nat.min_eq_left]
      . have:=g4 i x hi; rwa [Nat.zero_add] at this
      . simp at h6; omega
     have hl:((cells.drop 0).take (xs.length*R.sz)).length=xs.length*R.sz:=by simp; omega
     exact ⟨⟨rfl,hl,zix har.pos hl hp,hp⟩,rfl⟩
theorem zzD {A:Type} {R:Rep A} {x y:Operand} {xs ys:List A} {at_ et:TypeId} {n:Nat} {b:Nat} (k:Nat) (har:Ar1 T at_ et n R) (hk:L[k]?=some (.slice b 0 n R.sz (some n),.row R xs)) (hw:Want ops Γ true o.guard) (ho:o.op=.store at_ x y) (hd:o.dst=none)
 (hx:Opd Γ x (.raw (.ptr b 0))) (hy:Opd Γ y (.val (zjT n R) ys)) {L':Own} (hL:zfn L k (.slice b 0 n R.sz (some n),.row R ys)=some L') (r:zr C T d ops rest Γ L' Q):zr C T d ops (o::rest) Γ L Q:=by
 refine zi3 (.w (by rw [ho]; rfl) (λt a q=>by rw [ho] at q; cases q) (by rw [ho]; rfl) (λq=>by rw [ho] at q; cases q)) (λz fr h s=>by
  rw [show foot fr.op o=⟨[],false,zK (fr.op x),false⟩ by unfold foot; rw [ho]];exact ⟨λb hb=>(nomatch hb),λb' hb=>zeZ s hk rfl b' (by simpa [zK,hx.raw s.fr] using hb)⟩) hw hd (λz fr h s=>?_) r
 have hr:=s.own.ok _ (List.mem_of_getElem? hk);simp only [Obj.ok] at hr;have hv:=hy.val s.fr;obtain ⟨e1,e2,e3,e4⟩:=hv.rel;rcases hr.2 with ⟨q,_⟩ | ⟨b',off,cap,cells,q,g1,g2,g3,g4⟩
 . cases q
 . cases q;have hin:0+(fr.op y).cells.length<=cells.length:=by omega
   refine ⟨.tuple [],h.set b (.arr (splice cells 0 (fr.op y).cells) false), ?_,s.upd hk rfl rfl _ ?_ hL⟩
   . rw [ho];simp only [aop,hx.raw s.fr,astore,g1,har.whole];rw [if_pos (by exact ⟨e2,by omega,e3⟩)];rfl
   . simp only [Obj.ok];refine ⟨by rw [e1]; exact hr.1,.inr ⟨b,0,some xs.length,_,by rw [e1],by rw [za.get_set,if_pos rfl],by rw [zdi hin,e1]; exact g2,λc hc=>by rw [zdi hin,e1]; exact g3 c hc,λi x hi=>?_⟩⟩;have h6:=zdZ (off:=0) (i:=i) (R:=R) (cells:=(fr.op y).cells) (by rw [e1]; omega) hi;have:((splice cells 0 (fr.op y).cells).drop (0+i*R.sz)).take R.sz=((fr.op y).cells.drop (i*R.sz)).take R.sz:=by
      apply List.ext_getElem?;intro j;unfold splice;simp only [List.getElem?_take,List.getElem?_drop,List.getElem?_append,List.length_append,List.length_take,List.take_zero,List.nil_append,Nat.zero_add];repeat' split
      all_goals (try omega)
      all_goals rfl
     rw [this]; exact e4 i x hi
theorem zgF {A:Type} {R:Rep A} {x y:Operand} {ys:List A} {es:List TE} {at_ et:TypeId} {n:Nat} {b:Nat} (k:Nat) (har:Ar1 T at_ et n R) (hk:L[k]?=some (.ptr b 0,.box es)) (hn:es.length=n*R.sz) (hm:n<=maxLen) (hw:Want ops Γ true o.guard) (ho:o.op=.store at_ x y) (hd:o.dst=none)
 (hx:Opd Γ x (.raw (.ptr b 0))) (hy:Opd Γ y (.val (zjT n R) ys)) {L':Own} (hL:zfn L k (.slice b 0 n R.sz (some n),.row R ys)=some L') (r:zr C T d ops rest Γ L' Q):zr C T d ops (o::rest) Γ L Q:=by
 refine zi3 (.w (by rw [ho]; rfl) (λt a q=>by rw [ho] at q; cases q) (by rw [ho]; rfl) (λq=>by rw [ho] at q; cases q)) (λz fr h s=>by
  rw [show foot fr.op o=⟨[],false,zK (fr.op x),false⟩ by unfold foot; rw [ho]];exact ⟨λb hb=>(nomatch hb),λb' hb=>zeZ s hk rfl b' (by simpa [zK,hx.raw s.fr] using hb)⟩) hw hd (λz fr h s=>?_) r
 have hob:=s.own.ok _ (List.mem_of_getElem? hk);simp only [Obj.ok] at hob;obtain ⟨b',cells,q',g1,g2,g3⟩:=hob;cases q';have hv:=hy.val s.fr;obtain ⟨e1,e2,e3,e4⟩:=hv.rel;have hlc:=zaW g2;have e:splice cells 0 (fr.op y).cells=(fr.op y).cells:=by
  unfold splice;rw [List.take_zero,Nat.zero_add,List.drop_eq_nil_of_le (by omega)]; simp
 refine ⟨.tuple [],h.set b (.arr (fr.op y).cells false), ?_,s.upd hk rfl rfl _ ?_ hL⟩
 . rw [ho];simp only [aop,hx.raw s.fr,astore,g1,har.whole];rw [if_pos (by exact ⟨e2,by omega,e3⟩),e];rfl
 . simp only [Obj.ok];exact ⟨by rw [e1]; exact hm,.inr ⟨b,0,some n,_,by rw [e1],by rw [za.get_set,if_pos rfl],by rw [e1]; omega,λc hc=>by cases hc; rw [e1]; omega,λi x hi=>by rw [Nat.zero_add]; exact e4 i x hi⟩⟩
inductive ztq (T:Tab):{A:Type}->Nat->Rep A->(A->A->Bool)->List Field->Nat->Prop where
 | n {n off:Nat}:ztq T n zcR (fun _ _=>true) [] off
 | i {n : Nat} {B : Type} {S : Rep B} {k : IntKind} {q : B → B → Bool} {f : Field} {fs : List Field} {off : Nat} (hn : f.name ≠ "_") (hu : T.und f.type = some (.int k)) (hf : f.offset = off) (r : ztq T n S q fs (off + 1)) : ztq T n (zH (zj k) S) (fun x y => x.1 == y.1 && q x.2 y.2) (f :: fs) off
 | b {n : Nat} {B : Type} {S : Rep B} {q : B → B → Bool} {f : Field} {fs : List Field} {off : Nat} (hn : f.name ≠ "_") (hu : T.und f.type = some .bool) (hf : f.offset = off) (r : ztq T n S q fs (off + 1)) : ztq T n (zH zau S) (fun x y => x.1 == y.1 && q x.2 y.2) (f :: fs) off
 | s {n : Nat} {A B : Type} {R : Rep A} {S : Rep B} {q' : A → A → Bool} {q : B → B → Bool} {f : Field} {fs : List Field} {gs : Array Field} {off : Nat} (hn : f.name ≠ "_") (hu : T.und f.type = some (.struct gs)) (hst : ((T.types.get f.type).map (·.stood)).getD true = false) (hag : zdI T f.type = some true) (hsz : szT T f.type = some R.sz) (hp : 0 < R.sz) (hf : f.offset = off) (r' : ztq T n R q' gs.toList 0) (r : ztq T (n + 1) S q fs (off + R.sz)) : ztq T (n + 1) (zH R S) (fun x y => q' x.1 y.1 && q x.2 y.2) (f :: fs) off
theorem zrJ {t:TypeId} {k:IntKind} (h:T.und t=some (.int k)):zdI T t=some false:=by simp only [zdI,h]
theorem zqu {t:TypeId} (h:T.und t=some .bool):zdI T t=some false:=by simp only [zdI,h]
theorem zwD {dp n:Nat} {A:Type} {R:Rep A} {q:A->A->Bool} {fs:List Field} {off:Nat} (e:ztq T n R q fs off) (hdp:n<=dp):∀ (cx cy:List ze) (x y:A),R.rel z (cx.drop off) x->R.rel z (cy.drop off) y ->
    zc4 (λf=>match Go.Ai.apart T f.type cx f.offset,Go.Ai.apart T f.type cy f.offset with
        | some u,some v=>aeq T (dp+1) f.type u v
        | _,_=>none) fs=some (q x y):=by
  induction e generalizing dp with
  | n=>intros; rfl
  | @i n B S k q f fs off hn hu hf _ ih=>
    intro cx cy x y hx hy;subst hf;obtain ⟨c1,c2,e1,h1,h2⟩:=hx;obtain ⟨d1,d2,e2,g1,g2⟩:=hy;rw [h1.1] at e1;rw [g1.1] at e2;have hcx:cx[f.offset]?=some (.int k x.1):=by have:=congrArg (λl=>l[0]?) e1; simpa using this
    have hcy:cy[f.offset]?=some (.int k y.1):=by have:=congrArg (λl=>l[0]?) e2; simpa using this
    have ax:cx.drop (f.offset+1)=c2:=by have:=congrArg List.tail e1; simpa using this
    have ay:cy.drop (f.offset+1)=d2:=by have:=congrArg List.tail e2; simpa using this
    have:=ih hdp cx cy x.2 y.2 (by rw [ax]; exact h2) (by rw [ay]; exact g2);have hag:=zrJ hu;simp only [zc4,if_pos hn,Go.Ai.apart,hag,hcx,hcy,aeq,hu,if_pos rfl] at this ⊢;cases hb:(x.1==y.1) with
    | true=>simp only [Bool.true_and]; exact this
    | false=>rfl
  | @b n B S q f fs off hn hu hf _ ih=>
    intro cx cy x y hx hy;subst hf;obtain ⟨c1,c2,e1,h1,h2⟩:=hx;obtain ⟨d1,d2,e2,g1,g2⟩:=hy;have h1:c1=[.bool x.1]:=h1;have g1:d1=[.bool y.1]:=g1;rw [h1] at e1;rw [g1] at e2;have hcx:cx[f.offset]?=some (.bool x.1):=by have:=congrArg (λl=>l[0]?) e1; simpa using this
    have hcy:cy[f.offset]?=some (.bool y.1):=by have:=congrArg (λl=>l[0]?) e2; simpa using this
    have ax:cx.drop (f.offset+1)=c2:=by have:=congrArg List.tail e1; simpa using this
    have ay:cy.drop (f.offset+1)=d2:=by have:=congrArg List.tail e2; simpa using this
    have:=ih hdp cx cy x.2 y.2 (by rw [ax]; exact h2) (by rw [ay]; exact g2);have hag:=zqu hu;simp only [zc4,if_pos hn,Go.Ai.apart,hag,hcx,hcy,aeq,hu] at this ⊢;cases hb:(x.1==y.1) with
    | true=>simp only [Bool.true_and]; exact this
    | false=>rfl
  | @s n A B R S q' q f fs gs off hn hu hst hag hsz hp hf _ _ ih' ih=>
    intro cx cy x y hx hy;subst hf;obtain ⟨c1,c2,e1,h1,h2⟩:=hx;obtain ⟨d1,d2,e2,g1,g2⟩:=hy;obtain ⟨dp,rfl⟩:∃ d,dp=d+1:=⟨dp-1,by omega⟩;have lc:=R.len _ _ _ h1;have ld:=R.len _ _ _ g1;have tx:(cx.drop f.offset).take R.sz=c1:=by rw [e1,← lc]; simp
    have ty:(cy.drop f.offset).take R.sz=d1:=by rw [e2,← ld]; simp
    have ax:cx.drop (f.offset+R.sz)=c2:=by rw [← List.drop_drop,e1,← lc]; simp
    have ay:cy.drop (f.offset+R.sz)=d2:=by rw [← List.drop_drop,e2,← ld]; simp
    have lx:f.offset+R.sz<=cx.length:=by
      have:=congrArg List.length e1;rw [List.length_drop,List.length_append] at this;omega
    have ly:f.offset+R.sz<=cy.length:=by
      have:=congrArg List.length e2;rw [List.length_drop,List.length_append] at this;omega
    have i1:=ih' (dp:=dp) (by omega) c1 d1 x.1 y.1 (by simpa using h1) (by simpa using g1);have i2:=ih hdp cx cy x.2 y.2 (by rw [ax]; exact h2) (by rw [ay]; exact g2);have px:Go.Ai.apart T f.type cx f.offset=some (.agg c1):=by
      simp only [Go.Ai.apart,hag,hsz]; rw [if_pos lx,tx]
    have py:Go.Ai.apart T f.type cy f.offset=some (.agg d1):=by
      simp only [Go.Ai.apart,hag,hsz]; rw [if_pos ly,ty]
    have ae:aeq T (dp+1+1) f.type (.agg c1) (.agg d1)=some (q' x.1 y.1):=by
      simp only [aeq,hu,hst];exact i1
    simp only [zc4,if_pos hn,px,py,ae];cases hb:q' x.1 y.1 with
    | true=>simp only [Bool.true_and]; exact i2
    | false=>rfl
structure SEq (T:Tab) (t:TypeId) {A:Type} (R:Rep A) (q:A->A->Bool):Prop where
 ok:∃ fs,T.und t=some (.struct fs)/\ztq T 4 R q fs.toList 0
 stood:((T.types.get t).map (·.stood)).getD true=false
 eqg:((T.types.get t).map (·.eqg)).getD true=false
theorem zwE {A:Type} {R:Rep A} {q:A->A->Bool} {u:TypeId} {v w:ze} {a b:A} (h:SEq T u R q) (hR:R.agg=true) (hv:TV R z v a) (hw:TV R z w b):abin T .eql u v w=some (.bool (q a b))/\abin T .neq u v w=some (.bool (!q a b)):=by
 obtain ⟨fs,h1,h2⟩:=h.ok;have e1:=hv.agg;have e2:=hw.agg;rw [hR] at e1 e2;cases v with
 | agg cx=>
  cases w with
  | agg cy=>
   have hr1:=hv.rel;have hr2:=hw.rel;simp only [ze.cells] at hr1 hr2;have key:=zwD (dp:=6) h2 (by omega) cx cy a b (by simpa using hr1) (by simpa using hr2);have ae:aeq T 8 u (.agg cx) (.agg cy)=some (q a b):=by
    simp only [aeq,h1,h.stood];exact key
   constructor
   ·simp only [abin,aguard,h.eqg,ae]; rfl
   ·simp only [abin,aguard,h.eqg,ae]; rfl
  | _=>cases e2
 | _=>cases e1
theorem zz1 {A:Type} {R:Rep A} {q:A->A->Bool} {u u':TypeId} {x y:Operand} {a b:A} (hs:SEq T u R q) (hR:R.agg=true) (hw:Want ops Γ true o.guard) (ho:o.op=.binOp .eql u x y u') (hd:o.dst=some t) (hx:Opd Γ x (.val R a)) (hy:Opd Γ y (.val R b))
 (r:zr C T d ops rest ((t,.val zau (q a b))::Γ) L Q):zr C T d ops (o::rest) Γ L Q:=by
 refine zaj (by rw [ho]; rfl) hw hd (λz fr h s=>⟨.bool (q a b), ?_,by simp only [TE.ok]; exact zdK⟩) r;rw [ho];simp only [aop,(zwE hs hR (hx.val s.fr) (hy.val s.fr)).1,zS,Option.map]
theorem zb4 {A:Type} {R:Rep A} {xs:List A} {et:TypeId} {x y:Operand} {b q:Nat} {v:ze} {es:List TE} (k m:Nat) (hsz:szT T et=some 1) (hk:L[k]?=some (.ptr b 0,.box es)) (hm:L[m]?=some (v,.row R xs)) (hq:q<es.length) (hw:Want ops Γ true o.guard) (ho:o.op=.store et x y) (hd:o.dst=none) (hx:Opd Γ x (.raw (.ptr b q))) (hy:Opd Γ y (.raw v))
 {L':Own} (hL:zfn L k (.ptr b 0,.box (es.set q (.raw v)))=some L') (r:zr C T d ops rest Γ L' Q):zr C T d ops (o::rest) Γ L Q:=by
 refine zi3 (.w (by rw [ho]; rfl) (λt a q=>by rw [ho] at q; cases q) (by rw [ho]; rfl) (λq=>by rw [ho] at q; cases q)) (λz fr h s=>by
  rw [show foot fr.op o=⟨[],false,zK (fr.op x),false⟩ by unfold foot; rw [ho]];exact ⟨λb hb=>(nomatch hb),λb' hb=>zeZ s hk rfl b' (by simpa [zK,hx.raw s.fr] using hb)⟩) hw hd (λz fr h s=>?_) r
 have hv1:v.one=true:=by
  have hr:=s.own.ok _ (List.mem_of_getElem? hm);simp only [Obj.ok] at hr;rcases hr.2 with ⟨q,_⟩ | ⟨_,_,_,_,q,_⟩<;>rw [q]<;>rfl
 have hob:=s.own.ok _ (List.mem_of_getElem? hk);simp only [Obj.ok] at hob;obtain ⟨b',cells,q',h2,h3,h4⟩:=hob;cases q';have hv:=hy.raw s.fr;have hcs:v.cells=[v]:=by cases v<;>simp_all [ze.cells,ze.one]
 have hlt:q<cells.length:=by rw [zaW h3]; exact hq
 refine ⟨.tuple [],h.set b (.arr (cells.set q v) false), ?_,s.upd hk rfl rfl _ ?_ hL⟩
 . rw [ho];simp only [aop,hx.raw s.fr,hv,astore,h2,hsz,hcs,List.length_singleton];rw [if_pos (by exact ⟨by trivial,by omega,by simp [hv1]⟩),zll hlt];rfl
 . refine ⟨b,_,rfl,by rw [za.get_set,if_pos rfl],zgE h3 (by simp only [TE.ok]), ?_⟩;rw [List.all_eq_true] at h4 ⊢;intro c hc;rcases List.mem_or_eq_of_mem_set hc with q | rfl
   . exact h4 c q
   . exact hv1
theorem zcV {A:Type} {R:Rep A} {xs:List A} {v:ze} {b q:Nat} {es:List TE} (k m:Nat) (ts:List Nat) {L' L'':Own} (hk:L[k]?=some (v,.row R xs)) (hL:zdM L k=some L') (hm:L'[m]?=some (.ptr b 0,.box es)) (hq:es[q]?=some (.raw v)) (hL':zfn L' m (.ptr b 0,.box (es.set q (.val (zb R) xs)))=some L'') (hts:zhX Γ v ts) :
    ∀ z fr h,StZ C Γ L z fr h->∃ z',z.le z'/\StZ C (zfG ts (.val (zb R) xs) Γ) L'' z' fr h:=by
  intro z fr h s;obtain ⟨z',hz,s',hr⟩:=s.freeze hk hL;have hval:TE.ok z' (.val (zb R) xs) v:=by simp only [TE.ok]; exact zbP hr
  have hob:=s'.own.ok _ (List.mem_of_getElem? hm);simp only [Obj.ok] at hob;obtain ⟨b',cells,q',g1,g2,g3⟩:=hob;cases q';obtain ⟨c,hc1,hc2⟩:=zjj g2 hq;simp only [TE.ok] at hc2;subst hc2;have hset:cells.set q c=cells:=by
    apply List.ext_getElem?;intro i;rw [List.getElem?_set];split
    · rename_i e; subst e;rw [if_pos (List.getElem?_eq_some_iff.1 hc1).1,hc1]
    · rfl
  have hobj:(Obj.box (es.set q (.val (zb R) xs))).ok z' h (.ptr b 0):=by
    refine ⟨b,cells,rfl,g1, ?_,g3⟩;rw [← hset]; exact zgE g2 hval
  obtain ⟨rfl,hlt⟩:=zhU hL';have hmem:∀ p∈L'.set m (.ptr b 0,.box (es.set q (.val (zb R) xs))),p=(.ptr b 0,.box (es.set q (.val (zb R) xs)))\/p∈L':=by
    intro p hp;rcases List.mem_or_eq_of_mem_set hp with e | e
    · exact .inr e
    · exact .inl e
  have hb0:blks (L'.set m (.ptr b 0,.box (es.set q (.val (zb R) xs))))=blks L':=by
    have key:∀ (L:Own) (m:Nat),L[m]?=some (.ptr b 0,.box es)->blks (L.set m (.ptr b 0,.box (es.set q (.val (zb R) xs))))=blks L:=by
      intro L;induction L with
      | nil=>intro m h; simp at h
      | cons p L ih=>
        intro m h;cases m with
        | zero=>simp at h; subst h; rw [List.set_cons_zero,z8,z8]; rfl
        | succ m=>rw [List.set_cons_succ,z8,z8,ih m (by simpa using h)]
    exact key L' m hm
  refine ⟨z',hz,{ s' with fr:=zel hval hts s'.fr,own:=⟨λp hp=>?_,λp hp=>?_,by rw [hb0]; exact s'.own.nodup⟩ }⟩
  · rcases hmem p hp with rfl | hp
    · exact hobj
    · exact s'.own.ok p hp
  · rcases hmem p hp with rfl | hp
    · intro c' hc';exact s'.own.out _ (List.mem_of_getElem? hm) c' (by simpa [zeA,zhP] using hc')
    · exact s'.own.out p hp
end
end Go.Ai.Sx
/- Calls that hand owned things over and get them back changed. -/
namespace Go.Ai.Sx
def zjn (T:Tab) (g:FuncId) (as:List TE) (L0:Own) (rs:List RE) (L1:List ze->Own):Prop:=
 ∀ z h vs,z.Sub h->h.wm<=h.next->zz z as vs->zfk ⟨z,h,blks L0⟩ z h L0->ziq T g vs h λr h'=>∃ us z' γ,r=.ret (packed us)/\us.length=rs.length/\Chg ⟨z,h,blks L0⟩ h'/\z.le z'/\z'.Sub h'/\(∀ b,b<h.next->b∉blks L0->z' b=z b)/\zz z' (tes rs us) us/\zfk ⟨z,h,blks L0⟩ z' h' (owns rs us++L1 γ)
section
variable {C:Ctx} {T:Tab} {d:Option (List Nat)} {ops rest:List Oper} {Γ:Env} {L:Own} {Q:zf->za->Prop} {P:zab->zf->za->Prop} {o:Oper} {t:Nat} {z:Store} {fr:zf} {h:za}
theorem zj4 {ks js:List Nat} (hn:(ks++js).Nodup) (hb:(blks L).Nodup) {p:ze×Obj} {b:Nat} (hp:p∈picks L js) (h1:b∈zeA p):b∉blks (picks L ks):=by
 intro q;obtain ⟨p',hp',h2⟩:=za1.1 q;obtain ⟨i,i1,i2⟩:=zdu hp;obtain ⟨j,j1,j2⟩:=zdu hp';have:=zdh hb i2 j2 h1 h2;subst this;exact (List.nodup_append.1 hn).2.2 i j1 i i1 rfl
theorem zbh {ks:List Nat} {p:ze×Obj} (hp:p∈picks L ks):p∈L:=by
 obtain ⟨i,_,h2⟩:=zdu hp;exact List.mem_of_getElem? h2
theorem StZ.afterM (s:StZ C Γ L z fr h) {ks js:List Nat} (hn:(ks++js).Nodup) {h':za} {z':Store} {O:Own} (q:Chg ⟨z,h,blks (picks L ks)⟩ h') (hz:z.le z') (hs:z'.Sub h') (hold:∀ b,b<h.next->b∉blks (picks L ks)->z' b=z b) (ho:zfk ⟨z,h,blks (picks L ks)⟩ z' h' O):StZ C Γ (O++picks L js) z' fr h':=by
 have inn:∀ b,b∈blks (picks L ks)->b<h.next/\(C.h0.next<=b\/b∈C.B0):=λb hb=>by
  obtain ⟨p,hp,h1⟩:=za1.1 hb;obtain ⟨_,o2,o3⟩:=s.own.out p (zbh hp) b h1;exact ⟨o2,o3⟩
 have notin:∀ b,b<C.h0.next->b∉C.B0->b∉blks (picks L ks):=λb hb hB hq=>by
  rcases (inn b hq).2 with q1 | q1
  . omega
  . exact hB q1
 have qn:h.next<=h'.next:=q.next;have sn:=s.chg.next;refine { zle:=s.zle.trans hz,sub:=hs,old:=λb hb hB=>?_,fr:=s.fr.mono hz,own:=⟨?_, ?_, ?_⟩,chg:=⟨Nat.le_trans sn qn,λb hb hB=>?_,λm m1 m2 m3=>?_,q.ok⟩ }
 . rw [hold b (by omega) (notin b hb hB)]; exact s.old b hb hB
 . intro p hp;rcases List.mem_append.1 hp with hp | hp
   . exact ho.ok p hp
   . exact Obj.ok_mono hz (λb hb=>q.same b (s.own.out p (zbh hp) b hb).2.1 (zj4 hn s.own.nodup hp hb)) (s.own.ok p (zbh hp))
 . intro p hp b hb;rcases List.mem_append.1 hp with hp | hp
   . obtain ⟨o1,o2,o3⟩:=ho.out p hp b hb;refine ⟨o1,o2, ?_⟩;rcases o3 with q1 | q1
     . exact .inl (Nat.le_trans sn q1)
     . exact (inn b q1).2
   . obtain ⟨o1,o2,o3⟩:=s.own.out p (zbh hp) b hb;exact ⟨by rw [hold b o2 (zj4 hn s.own.nodup hp hb)]; exact o1,Nat.lt_of_lt_of_le o2 qn,o3⟩
 . rw [show blks (O++picks L js)=blks O++blks (picks L js) by simp [blks]];refine List.nodup_append.2 ⟨ho.nodup,zcm s.own.nodup (List.nodup_append.1 hn).2.1,λa ha b hb e=>?_⟩;subst e;obtain ⟨p,hp,h1⟩:=za1.1 ha;obtain ⟨p',hp',h2⟩:=za1.1 hb;rcases (ho.out p hp a h1).2.2 with q1 | q1
   . have q1:h.next<=a:=q1;have:=(s.own.out p' (zbh hp') a h2).2.1;omega
   . exact zj4 hn s.own.nodup hp' h2 q1
 . have:h'.get b=h.get b:=q.same b (Nat.lt_of_lt_of_le hb sn) (notin b hb hB);rw [this]; exact s.chg.same b hb hB
 . refine q.wm m (s.chg.wm m m1 m2 m3) (Nat.le_trans m2 sn) λb hb=>?_;rcases (inn b hb).2 with q1 | q1
   . omega
   . exact m3 b q1
theorem StZ.lent (s:StZ C Γ L z fr h) {ks:List Nat} (hn:ks.Nodup):zfk ⟨z,h,blks (picks L ks)⟩ z h (picks L ks):=
 ⟨λp hp=>s.own.ok p (zbh hp),λp hp b hb=>⟨(s.own.out p (zbh hp) b hb).1,(s.own.out p (zbh hp) b hb).2.1,.inr (za1.2 ⟨p,hp,hb⟩)⟩,zcm s.own.nodup hn⟩
theorem zz2 {c:Call} {x:Operand} {g:FuncId} {pre post:List ze} {as:List TE} {rs:List RE} {L0 Lr:Own} {L1:List ze->Own} (ks js:List Nat) (hf:zjn T g as L0 rs L1) (h0:picks L ks=L0) (hr:picks L js=Lr) (hn:(ks++js).Nodup) (hcst:T.consts.get g=none) (hw:Want ops Γ true o.guard) (ho:o.op=.call c) (hd:o.dst=some t) (hc:c.callee=.value x) (hx:Opd Γ x (.raw (.func (.func g) [] []))) (hvs:Opds Γ c.args.toList as)
 (hq:∀ γ,RQ rs (L1 γ++Lr) λes L'=>zr C T none ops rest ((t,zow es)::Γ) L' Q):zr C T none ops (o::rest) Γ L Q:=by
 subst h0 hr;intro fr h ⟨z,s⟩;have ha:aop T fr.op h o.op=some (.call (.func (.func g) [] []) (c.args.toList.map fr.op)):=by rw [ho]; simp only [aop,zcu,hc,hx.raw s.fr]
 simp only [wX,hw.ok s.fr,ha,hd,zaI];refine zcw hcst ?_;rw [List.nil_append,List.append_nil];refine (hf z h _ s.sub s.chg.ok (hvs.ok s.fr) (s.lent (List.nodup_append.1 hn).1)).mono λr h' ⟨us,z',γ,e1,hl,q,hz,hs,hold,hok,hown⟩=>⟨packed us,e1, ?_⟩;have s':=s.afterM (js:=js) hn q hz hs hold hown;rw [List.append_assoc] at s';exact (hq γ).at hl _ _ ⟨z',s'.set (zjX hl hok)⟩
def zz3 (C:Ctx) (T:Tab) (res:List ResultVar) (rs:List RE) (L1:List ze->Own) (e:zab) (fr:zf) (h:za):Prop:=
 (e=.normal\/e=.ret)/\∃ us z γ,aresults T res fr h=some us/\us.length=rs.length/\C.z0.le z/\z.Sub h/\(∀ b,b<C.h0.next->b∉C.B0->z b=C.z0 b)/\zz z (tes rs us) us/\zfk C z h (owns rs us++L1 γ)/\Chg C h
theorem zfR {L:Own}:∀ {is js:List Nat},picks L (is++js)=picks L is++picks L js
 | [],_=>rfl
 | i::is,js=>by
  simp only [List.cons_append,picks];cases L[i]? with
  | none=>exact zfR
  | some p=>simp only [List.cons_append,zfR]
theorem zdq {e:zab} {res:List ResultVar} {rs:List RE} {L1:List ze->Own} {ks:List Nat} (js:List Nat) (γ:List ze) (he:e=.normal\/e=.ret) (q:Rets T Γ L res rs ks) (hL:picks L js=L1 γ) (hn:(ks++js).Nodup):∀ fr h,St C Γ L fr h->zz3 C T res rs L1 e fr h:=by
 intro fr h ⟨z,s⟩;obtain ⟨us,h1,h2,h3,h4⟩:=q.ok s;refine ⟨he,us,z,γ,h1,h2,s.zle,s.sub,s.old,h3, ?_,s.chg⟩;rw [h4,← hL,← zfR];exact ⟨λp hp=>s.own.ok p (zbh hp),λp hp=>s.own.out p (zbh hp),zcm s.own.nodup hn⟩
theorem zho {g:FuncId} {F:Func} {c:Code} {as:List TE} {rs:List RE} {L0:Own} {L1:List ze->Own} (hF:T.funcs.get g=some F) (hb:F.body=some c) (hn:Nat.blt F.ntmps as.length=false) (run:∀ C,zdX C T c (entry 0 as) L0 (zz3 C T F.results.toList rs L1)):zjn T g as L0 rs L1:=by
 intro z h vs hsub hwm hok hL;refine zlV hF hb (by rw [zaW hok]; exact hn) ?_;have s0:StZ ⟨z,h,blks L0⟩ (entry 0 as) L0 z (zaz 0 vs .leaf) h:=
  { zle:=.refl _,sub:=hsub,old:=λ_ _ _=>rfl,fr:=zge hok,own:=hL,chg:=⟨Nat.le_refl _,λ_ _ _=>rfl,λ_ m1 _ _=>m1,hwm⟩ }
 refine (run ⟨z,h,blks L0⟩ _ _ ⟨z,s0⟩).mono λe fr h' ⟨he,us,z',γ,h1,h2,h3,h4,h5,h6,h7,h8⟩=>⟨he,us,h1,us,z',γ,rfl,h2,h8,h3,h4,λb hb=>h5 b hb,h6,h7⟩
def zoz (g:FuncId) (ps cs:List TE):Rep Unit:=
 ⟨1,false,λz xs _=>∃ us vs,xs=[.func (.func g) us vs]/\zz z ps us/\zz z cs vs,λ_ _ _ h=>by obtain ⟨u,v,h,_⟩:=h; rw [h]; rfl,
  λ_ _ _ _ e h=>let ⟨u,v,h1,h2,h3⟩:=h; ⟨u,v,h1,zdg e h2,zdg e h3⟩,λ_=>rfl,λ_ _ _ h=>by obtain ⟨u,v,h,_⟩:=h; rw [h]; rfl⟩
theorem zj5 {g:FuncId} {ps cs:List TE} {v:ze} {x:Unit} (q:TV (zoz g ps cs) z v x):∃ us vs,v=.func (.func g) us vs/\zz z ps us/\zz z cs vs:=by
 obtain ⟨⟨us,vs,h1,h2,h3⟩,h4⟩:=q;refine ⟨us,vs, ?_,h2,h3⟩;cases v<;>simp_all [ze.isAgg,ze.cells,zoz]
theorem zl6 {g:FuncId} {first captured:Array Operand} {ps cs:List TE} (hw:Want ops Γ true o.guard) (ho:o.op=.makeFunc (.func g) first captured) (hd:o.dst=some t) (h1:Opds Γ first.toList ps) (h2:Opds Γ captured.toList cs)
 (r:zr C T d ops rest ((t,.val (zoz g ps cs) ())::Γ) L Q):zr C T d ops (o::rest) Γ L Q:=by
 refine zaj (by rw [ho]; rfl) hw hd (λz fr h s=>?_) r;refine ⟨.func (.func g) (first.toList.map fr.op) (captured.toList.map fr.op),by rw [ho]; rfl, ?_⟩;simp only [TE.ok];exact ⟨⟨_,_,rfl,h1.ok s.fr,h2.ok s.fr⟩,rfl⟩
end
end Go.Ai.Sx
/- Rows whose elements are rows that are owned too. -/
namespace Go.Ai.Sx
def zqR:Rep ze:=⟨1,false,λ_ cs x=>cs=[x]/\x.one=true/\x.isAgg=false,λ_ _ _ h=>by rw [h.1]; rfl,λ_ _ _ _ _ h=>h,λ_=>rfl,λ_ _ _ h=>by rw [h.1]; simp [h.2.1]⟩
theorem zvB {z:Store} {v x:ze} (q:TV zqR z v x):v=x:=by
 have h1:=q.agg;have h2:=q.rel;cases v<;>simp_all [ze.isAgg,ze.cells,zqR]
section
variable {C:Ctx} {T:Tab} {d:Option (List Nat)} {ops rest:List Oper} {Γ:Env} {L:Own} {Q:zf->za->Prop} {P:zab->zf->za->Prop} {o:Oper} {t:Nat} {z:Store} {fr:zf} {h:za}
theorem StZ.repack (s:StZ C Γ L z fr h) {L':Own} (hp:(blks L').Perm (blks L)) (hk:∀ p∈L',p.2.ok z h p.1):StZ C Γ L' z fr h:=by
 refine { s with own:=⟨hk,λp hp' b hb=>?_,hp.nodup_iff.2 s.own.nodup⟩ };have h1:=hp.mem_iff.1 (za1.2 ⟨p,hp',hb⟩);obtain ⟨q,hq,hb'⟩:=za1.1 h1;exact s.own.out q hq b hb'
theorem zrK {L L':Own} (hp:L.Perm L'):(blks L).Perm (blks L'):=List.Perm.flatMap_right _ hp
theorem set_same.{u} {α:Type u} {l:List α} {i:Nat} {a:α} (h:l[i]?=some a):l.set i a=l:=by
 apply List.ext_getElem?;intro j;rw [List.getElem?_set];split
 . rename_i q;subst q;rw [if_pos (List.getElem?_eq_some_iff.1 h).1]; exact h.symm
 . rfl
theorem zl7 {e:TE} {n:Nat} (hf:zhz z Γ fr) (h:e.ok z (fr.ev n)):zhz z ((n,e)::Γ) fr:=by
 intro t e' q;simp only [look] at q;cases hb:Nat.beq n t with
 | true=>
  rw [hb] at q;cases q;have:=Nat.eq_of_beq_eq_true hb;subst this;exact h
 | false=>rw [hb] at q; exact hf t e' q
def untup:ze->List ze
 | .tuple l=>l
 | _=>[]
end
end Go.Ai.Sx
/- Functions that call back,and loops over them. -/
namespace Go.Ai.Sx
def zyR (T:Tab) (f:ze) (as:List TE) (L0:Own) (rs:List RE) (L1:List ze->Own):Prop:=
 ∀ z h vs,z.Sub h->h.wm<=h.next->zz z as vs->zfk ⟨z,h,blks L0⟩ z h L0->zja T f vs h λr h'=>∃ us z' γ,r=.ret (packed us)/\us.length=rs.length/\Chg ⟨z,h,blks L0⟩ h'/\z.le z'/\z'.Sub h'/\(∀ b,b<h.next->b∉blks L0->z' b=z b)/\zz z' (tes rs us) us/\zfk ⟨z,h,blks L0⟩ z' h' (owns rs us++L1 γ)
structure zua (T:Tab) (yv:ze) {X σ τ:Type} (ins:X->List TE) (step:σ->X->Option (σ⊕τ)) (K:σ⊕τ->List ze->Obj):Prop where
 call:∀ s γ x r,step s x=some r->zyR T yv (ins x) [(yv,K (.inl s) γ)] [.val zau r.isLeft] λγ'=>[(yv,K r γ')]
 one:yv.one=true
 agg:yv.isAgg=false
def zz4 (ops:List Oper) (ol:List Nat) (i:Nat):Bool:=match zcc ops i with
 | b=>(List.range i).all λp=>b.contains p||(match ops[p]? with | some q=>zis q.op&&!ol.contains p | none=>false)
def zh0 (d:Option (List Nat)) (ops rest:List Oper):Prop:=∀ ol,d=some ol->zz4 ops ol (ops.length-(rest.length+1))=true/\rest.all (λo=>zcZ o.op)=true
section
variable {C:Ctx} {T:Tab} {d:Option (List Nat)} {ops rest:List Oper} {Γ:Env} {L:Own} {Q:zf->za->Prop} {P:zab->zf->za->Prop} {o:Oper} {t:Nat} {z:Store} {fr:zf} {h:za}
theorem zqv {a:Foot}:a.apart ⟨[],false,[],false⟩=true:=by
 unfold Foot.apart disj;simp
theorem znm {i:Nat} {done:List (Nat×Foot)}:zca ops i ⟨[],false,[],false⟩ done=true:=by
 unfold zca;rw [if_pos (List.all_eq_true.2 λp _=>zqv)]
theorem zoA {a:Foot}:(⟨[],false,[],false⟩:Foot).apart a=true:=by
 unfold Foot.apart disj;simp
theorem zl8 {ol:List Nat} {i:Nat} {f:Foot} {done:List (Nat×Foot)} (hc:zz4 ops ol i=true) (hd:zlj ops ol z i fr h done):zca ops i f done=true:=by
 unfold zca;split
 . rfl
 . refine List.all_eq_true.2 λp hp=>?_;obtain ⟨h1,h2,h3,h4,h5,h6⟩:=hd.1 p hp;unfold zz4 at hc;have:=List.all_eq_true.1 hc p.1 (List.mem_range.2 h1);rw [Bool.or_eq_true] at this;rcases this with q | q
   . rw [q,Bool.or_true]
   . split at q
     . rename_i o ho;rw [Bool.and_eq_true] at q;have hq:zeh ol p.1 o.op=true:=by
        unfold zeh;have:=q.1;unfold zis at this;rw [Bool.or_eq_true] at this;rcases this with k | k
        . rw [k]; rfl
        . rw [k,q.2]; simp
       obtain ⟨k1,k2,_,k4⟩:=h6 o ho hq;have e:p.2=⟨[],false,[],false⟩:=by
        cases hp2:p.2 with
        | mk rd rall wr wall=>
         rw [hp2] at k1 k2 k4 h2;simp only at k1 k2 k4 h2;rw [k1,k2,h2,k4 q.1]
       rw [e,zoA,Bool.true_or]
     . cases q
theorem zhp:∀ {rest:List Oper} {i:Nat} {done:List (Nat×Foot)} {fr:zf} {h:za},rest.all (λo=>zcZ o.op)=true->h.wm<=h.next->wX T ops rest fr h Q->Draw T ops rest i done fr h Q
 | [],_,_,_,_,_,_,w=>zpn w
 | o::rest,i,done,fr,h,hno,hwm,w=>by
  rw [List.all_cons,Bool.and_eq_true] at hno;simp only [wX] at w;split at w
  . rename_i hw;split at w
    . rename_i v h' ha;have hk:=zgy ha;exact zru hw ha hwm (zl1 _ hno.1) znm (zhp hno.2 (Nat.le_trans hk.2.1 (Nat.le_trans hwm hk.1)) w)
    . rename_i f vs ha;obtain ⟨c,fo,ho,hc,_⟩:=zcH ha;have:=hno.1;rw [ho] at this;simp only [zcZ,hc] at this;cases this
    . exact w.elim
  . rename_i hw; exact zm7 hw (zhp hno.2 hwm w)
  . exact w.elim
theorem zqw {i:Nat} {done:List (Nat×Foot)} {f:ze} {vs:List ze} (hw:awanted ops fr o.guard=some true) (ha:aop T fr.op h o.op=some (.call f vs))
 (hk:∀ w,zca ops i ⟨[],true,[],w⟩ done=true)
 (r:zja T f vs (lay h h.next) λr h1=>∃ v,r=.ret v/\∀ w,Draw T ops rest (i+1) ((i,⟨[],true,[],w⟩)::done) (putDst fr o.dst v) (lay h1 (min h.wm h1.wm)) Q):Draw T ops (o::rest) i done fr h Q:=by
 obtain ⟨n,r,h1,h2,v,rfl,q⟩:=r;obtain ⟨m,fr',h3,h4,h5⟩:=q (!(Nat.ble h.next h1.wm));have ha':aop T fr.op { h with wm:=h.next } o.op=some (.call f vs):=by
  obtain ⟨c,fo,ho,hc,e1,e2⟩:=zcH ha;rw [ho];simp only [aop,zcu,hc,e1,e2]
 have e:zfg (foot fr.op o) h h1=⟨[],true,[],!(Nat.ble h.next h1.wm)⟩:=by rw [zhK ha]; rfl
 refine ⟨max n m,fr',h3, ?_,h5⟩;have c1:=zeY (T:=T) (zbx (Nat.le_max_left n m)) _ _ _ _ h2;have c2:=zhL (T:=T) (zeY (zbx (Nat.le_max_right n m))) _ _ _ _ _ _ h4;have c1:acall T (aexec T (max n m)) f vs { h with wm:=h.next }=some (.ret v,h1):=c1;simp only [adraw,hw,astep,ha',c1,e,hk,cond_true];exact c2
theorem ziA {rs:List RE} {L1:List ze->Own} (ks js:List Nat) (hn:(ks++js).Nodup) (hser:zh0 d ops rest) (hw:Want ops Γ true o.guard) (hd:o.dst=some t)
    (H:∀ z fr h,StZ C Γ L z fr h->∃ f vs,aop T fr.op h o.op=some (.call f vs)/\∀ h,z.Sub h->h.wm<=h.next->zfk ⟨z,h,blks (picks L ks)⟩ z h (picks L ks)->zja T f vs h λr h'=>∃ us z' γ,r=.ret (packed us)/\us.length=rs.length/\Chg ⟨z,h,blks (picks L ks)⟩ h'/\z.le z'/\z'.Sub h'/\(∀ b,b<h.next->b∉blks (picks L ks)->z' b=z b)/\zz z' (tes rs us) us/\zfk ⟨z,h,blks (picks L ks)⟩ z' h' (owns rs us++L1 γ))
    (hq:∀ γ,RQ rs (L1 γ++picks L js) λes L'=>zr C T none ops rest ((t,zow es)::Γ) L' Q):zr C T d ops (o::rest) Γ L Q:=by
  cases d with
  | none=>
    intro fr h ⟨z,s⟩;obtain ⟨f,vs,ha,hf⟩:=H z fr h s;simp only [wX,hw.ok s.fr,ha,hd,zaI];refine (hf h s.sub s.chg.ok (s.lent (List.nodup_append.1 hn).1)).mono λr h' ⟨us,z',γ,e1,hl,q,hz,hs,hold,hok,hown⟩=>⟨packed us,e1, ?_⟩;have s':=s.afterM (js:=js) hn q hz hs hold hown;rw [List.append_assoc] at s';exact (hq γ).at hl _ _ ⟨z',s'.set (zjX hl hok)⟩
  | some ol=>
    intro z fr h i done s hr hok hdn;obtain ⟨f,vs,ha,hf⟩:=H z fr h s;have hi:ops[i]?=some o:=by have:=congrArg (λl=>l[0]?) hr; simpa using this
    have hlt:i<ops.length:=(List.getElem?_eq_some_iff.1 hi).1;have hil:i=ops.length-(rest.length+1):=by
      have:=congrArg List.length hr;rw [List.length_drop,List.length_cons] at this;omega
    obtain ⟨hc,hno⟩:=hser ol rfl;rw [← hil] at hc;have sl:StZ C Γ L z fr (lay h h.next):=s.low (Nat.le_refl _) (λm _ m2 _=>Nat.le_trans m2 s.chg.next);refine zqw (hw.ok s.fr) ha (λw=>zl8 hc hdn) ?_;refine (hf (lay h h.next) sl.sub sl.chg.ok (sl.lent (List.nodup_append.1 hn).1)).mono λr h' ⟨us,z',γ,e1,hl,q,hz,hs,hold,hok,hown⟩=>⟨packed us,e1,λw=>?_⟩;have s':=sl.afterM (js:=js) hn q hz hs hold hown;rw [List.append_assoc] at s';have s'':StZ C Γ (owns rs us++(L1 γ++picks L js)) z' fr (lay h' (min h.wm h'.wm)):=s'.low (by have:=s'.chg.ok; omega) (λm m1 m2 m3=>by have h1:=s.chg.wm m m1 m2 m3; have h2:=s'.chg.wm m m1 m2 m3; omega);refine zhp hno s''.chg.ok ?_;rw [hd,zaI];exact (hq γ).at hl _ _ ⟨z',s''.set (zjX hl hok)⟩
theorem zub {g:FuncId} {as:List TE} {L0:Own} {rs:List RE} {L1:List ze->Own} (hcst:T.consts.get g=none) (hf:zjn T g as L0 rs L1):zyR T (.func (.func g) [] []) as L0 rs L1:=λz h vs h1 h2 h3 h4=>by
 refine zcw hcst ?_;rw [List.nil_append,List.append_nil];exact hf z h vs h1 h2 h3 h4
theorem zuc {c:Call} {x:Operand} {g:FuncId} {as:List TE} {rs:List RE} {L0 Lr:Own} {L1:List ze->Own} (ks js:List Nat) (hser:zh0 d ops rest) (hf:zjn T g as L0 rs L1) (h0:picks L ks=L0) (hr:picks L js=Lr) (hn:(ks++js).Nodup) (hcst:T.consts.get g=none) (hw:Want ops Γ true o.guard) (ho:o.op=.call c) (hd:o.dst=some t) (hc:c.callee=.value x) (hx:Opd Γ x (.raw (.func (.func g) [] []))) (hvs:Opds Γ c.args.toList as)
 (hq:∀ γ,RQ rs (L1 γ++Lr) λes L'=>zr C T none ops rest ((t,zow es)::Γ) L' Q):zr C T d ops (o::rest) Γ L Q:=by
 subst h0 hr;exact ziA ks js hn hser hw hd (λz fr h s=>⟨.func (.func g) [] [],c.args.toList.map fr.op,by rw [ho]; simp only [aop,zcu,hc,hx.raw s.fr],λh1 h2 h3 h4=>zub hcst hf z h1 _ h2 h3 (hvs.ok s.fr) h4⟩) hq
theorem zpy {c:Call} {x:Operand} {g:FuncId} {ps cs es:List TE} {rs:List RE} {L0 Lr:Own} {L1:List ze->Own} (ks js:List Nat) (hser:zh0 d ops rest) (hf:zjn T g (ps++es++cs) L0 rs L1) (h0:picks L ks=L0) (hr:picks L js=Lr) (hn:(ks++js).Nodup) (hcst:T.consts.get g=none) (hw:Want ops Γ true o.guard) (ho:o.op=.call c) (hd:o.dst=some t) (hc:c.callee=.value x) (hx:Opd Γ x (.val (zoz g ps cs) ())) (hvs:Opds Γ c.args.toList es)
 (hq:∀ γ,RQ rs (L1 γ++Lr) λes' L'=>zr C T none ops rest ((t,zow es')::Γ) L' Q):zr C T d ops (o::rest) Γ L Q:=by
 subst h0 hr;refine ziA (rs:=rs) (L1:=L1) ks js hn hser hw hd (λz fr h s=>?_) hq;obtain ⟨us0,vs0,ev,hp,hcs⟩:=zj5 (hx.val s.fr);refine ⟨.func (.func g) us0 vs0,c.args.toList.map fr.op,by rw [ho]; simp only [aop,zcu,hc,ev],λh1 h2 h3 h4=>?_⟩;exact zcw hcst (hf z h1 _ h2 h3 (zbF (zbF hp (hvs.ok s.fr)) hcs) h4)
theorem zrL {c:Call} {x:Operand} {yv:ze} {X σ τ:Type} {ins:X->List TE} {step:σ->X->Option (σ⊕τ)} {K:σ⊕τ->List ze->Obj} {s:σ} {a:X} {r:σ⊕τ} {γ:List ze} {L0 Lr:Own} (ks js:List Nat) (hser:zh0 d ops rest) (hcb:zua T yv ins step K) (hs:step s a=some r) (h0:picks L ks=L0) (hL0:L0=[(yv,K (.inl s) γ)]) (hr:picks L js=Lr) (hn:(ks++js).Nodup) (hw:Want ops Γ true o.guard) (ho:o.op=.call c) (hd:o.dst=some t) (hc:c.callee=.value x) (hx:Opd Γ x (.raw yv)) (hvs:Opds Γ c.args.toList (ins a))
 (hq:∀ γ',zr C T none ops rest ((t,.val zau r.isLeft)::Γ) ((yv,K r γ')::Lr) Q):zr C T d ops (o::rest) Γ L Q:=by
 subst hr h0;refine ziA (rs:=[.val zau r.isLeft]) (L1:=λγ'=>[(yv,K r γ')]) ks js hn hser hw hd (λz fr h s=>⟨yv,c.args.toList.map fr.op,by rw [ho]; simp only [aop,zcu,hc,hx.raw s.fr],λh1 h2 h3 h4=>?_⟩) (λγ'=>hq γ');rw [hL0] at h4 ⊢;exact hcb.call _ γ a r hs z h1 _ h2 h3 (hvs.ok s.fr) h4
def zyS:Option Nat->zab
 | none=>.ret
 | some id=>.exit id
def zyT:Option Nat->Code
 | none=>.ret
 | some id=>.exit id
def ztr {σ τ:Type} (B:zhA) (X:τ->Option Nat):σ⊕τ->zhA
 | .inl _=>{ B with state:=.ready,pending:=none }
 | .inr t=>{ B with state:=.done,pending:=some (zyT (X t)) }
def znn {σ τ:Type} (X:τ->Option Nat):σ⊕τ->zab
 | .inl _=>.normal
 | .inr t=>zyS (X t)
def zgo {σ τ:Type} (l:Nat) (B:zhA) (Γ:Env) (I:σ⊕τ->List ze->Own) (X:τ->Option Nat) (r:σ⊕τ) (γ:List ze):Obj:=
 .cb (l::blks (I r γ)) λz h=>(∀ p∈I r γ,p.2.ok z h p.1)/\h.get l=some (.loop (ztr B X r))/\zhz z Γ B.fr
theorem zj6 {σ τ:Type} {l:Nat} {B:zhA} {I:σ⊕τ->List ze->Own} {X:τ->Option Nat} {r:σ⊕τ} {γ:List ze} {v:ze} (h1:∀ p∈I r γ,p.2.ok z h p.1) (h2:h.get l=some (.loop (ztr B X r))) (h3:zhz z Γ B.fr):(zgo l B Γ I X r γ).ok z h v:=by
 refine ⟨⟨h1,h2,h3⟩,λz z' h h' hz hb q=>⟨λp hp=>?_, ?_,q.2.2.mono hz⟩⟩
 . exact Obj.ok_mono hz (λb hb'=>hb b (List.mem_cons_of_mem _ (za1.2 ⟨p,hp,hb'⟩))) (q.1 p hp)
 . rw [hb l (List.mem_cons_self ..)]; exact q.2.1
def zud:List Nat->List TE->Env->Env
 | p::ps,e::es,Γ=>zud ps es ((p,e)::Γ)
 | _,_,Γ=>Γ
theorem zrM:∀ {ps:List Nat} {es:List TE} {vs:List ze} {Γ:Env} {fr:zf},zz z es vs->zhz z Γ fr->zhz z (zud ps es Γ) (zc5 ps vs fr)
 | [],es,vs,Γ,fr,_,h=>by cases es<;>simpa [zud,zc5] using h
 | p::ps,[],vs,Γ,fr,hv,h=>by
  simp only [zz] at hv;subst hv;simpa [zud,zc5] using h
 | p::ps,e::es,vs,Γ,fr,hv,h=>by
  simp only [zz] at hv;obtain ⟨v,vs',rfl,h1,h2⟩:=hv;simp only [zud,zc5];exact zrM h2 (h.set h1)
def zz5 {σ τ:Type} (C:Ctx) (I:σ⊕τ->List ze->Own) (X:τ->Option Nat) (r:σ⊕τ) (e:zab) (fr:zf) (h:za):Prop:=e=znn X r/\∃ γ,St C [] (I r γ) fr h
def zz6 {σ τ:Type} (C:Ctx) (T:Tab) (body:Code) (I:σ⊕τ->List ze->Own) (X:τ->Option Nat) (r:σ⊕τ) (e:zab) (fr:zf) (h:za):Prop:=e=.normal/\∃ Γ1 L1,St C Γ1 L1 fr h/\∀ C',zdX C' T body Γ1 L1 (zz5 C' I X r)
theorem StZ.ctx {z0:Store} {h0:za} {B0:List Nat} {l:Nat} {x:zfy} (s:StZ ⟨z0,h0,B0⟩ Γ L z fr h) (hl:l<h0.next) (hB:l∉B0) (hz:z0 l=none):StZ ⟨z0,h0.set l x,B0⟩ Γ L z fr (h.set l x):=by
 have hzl:z l=none:=by rw [s.old l hl hB]; exact hz
 have hout:∀ p∈L,∀ b,b∈zeA p->b≠l:=by
  intro p hp b hb e;subst e;rcases (s.own.out p hp b hb).2.2 with q | q
  . have q:h0.next<=b:=q; omega
  . exact hB q
 refine { zle:=s.zle,sub:=λb y hb=>?_,old:=s.old,fr:=s.fr,own:=⟨λp hp=>?_,s.own.out,s.own.nodup⟩,chg:=⟨s.chg.next,λb hb hb'=>?_,λm m1 m2 m3=>?_, ?_⟩ }
 . obtain ⟨h1,h2⟩:=s.sub b y hb;exact ⟨by rw [za.get_set,if_neg (λe=>by subst e; rw [hzl] at hb; cases hb)]; exact h1,h2⟩
 . exact Obj.ok_mono (.refl _) (λb hb=>by rw [za.get_set,if_neg (λe=>hout p hp b hb e)]) (s.own.ok p hp)
 . rw [za.get_set];show _=(h0.set l x).get b;rw [za.get_set];split
   . rfl
   . exact s.chg.same b hb hb'
 . have m1:m<=min h0.wm l:=m1;have:=s.chg.wm m (by
    have:m<=h0.wm:=by omega
    exact this) m2 m3
   show m<=min h.wm l;omega
 . show min h.wm l<=h.next;have:=s.chg.ok;omega
theorem zpz {σ τ X:Type} {ins:X->List TE} {step:σ->X->Option (σ⊕τ)} {I:σ⊕τ->List ze->Own} {E:τ->Option Nat} {l:Nat} {params:List Nat} {assign body:Code} {fr0:zf} (hp:∀ x,(ins x).length=params.length)
    (hb:∀ s γ x r,step s x=some r->∀ C,zdX C T assign (zud params (ins x) Γ) (I (.inl s) γ) (zz6 C T body I E r)) :
    zua T (.func (.yield l) [] []) ins step (zgo l { state:=.ready,pending:=none,fr:=fr0,params:=params,assign:=assign,body:=body } Γ I E):=by
  refine ⟨λs γ x r hs=>?_,rfl,rfl⟩;intro z h vs hsub hwm hvs hown;have hko:=hown.ok _ (List.mem_singleton.2 rfl);obtain ⟨⟨k1,k2,k3⟩,_⟩:=hko;have hblk:blks [((ze.func (.yield l) [] []:ze),zgo l { state:=.ready,pending:=none,fr:=fr0,params:=params,assign:=assign,body:=body } Γ I E (.inl s) γ)]=l::blks (I (.inl s) γ):=by
    rw [z8]; simp [blks,zeA,zgo]
  have hnd:=hown.nodup;rw [hblk] at hnd ⊢;have hl:l<h.next/\z l=none:=by
    have:=hown.out _ (List.mem_singleton.2 rfl) l (List.mem_cons_self ..);exact ⟨this.2.1,this.1⟩
  have hlB:l∉blks (I (.inl s) γ):=(List.nodup_cons.1 hnd).1
  -- the assignments
  have s1:StZ ⟨z,h,blks (I (.inl s) γ)⟩ (zud params (ins x) Γ) (I (.inl s) γ) z (zc5 params vs fr0) h:=
    { zle:=.refl _,sub:=hsub,old:=λ_ _ _=>rfl,fr:=zrM hvs k3,
      own:=⟨k1,λp hp b hb=>by
        have:=hown.out _ (List.mem_singleton.2 rfl) b (List.mem_cons_of_mem _ (za1.2 ⟨p,hp,hb⟩));exact ⟨this.1,this.2.1,.inr (za1.2 ⟨p,hp,hb⟩)⟩,(List.nodup_cons.1 hnd).2⟩,
      chg:=⟨Nat.le_refl _,λ_ _ _=>rfl,λ_ m1 _ _=>m1,hwm⟩ }
  obtain ⟨n1,e1,fr1,h1,a1,rfl,Γ1,L1,⟨z1,t1⟩,hbody⟩:=hb s γ x r hs _ _ _ ⟨z,s1⟩;have hg1:h1.get l=h.get l:=t1.chg.same l hl.1 hlB
  -- the body
  have t2:=t1.ctx (x:=.loop { state:=.busy,pending:=none,fr:=fr0,params:=params,assign:=assign,body:=body }) hl.1 hlB hl.2;obtain ⟨n2,e2,fr2,h2,a2,rfl,γ',z2,t3⟩:=hbody _ _ _ ⟨z1,t2⟩;have hl3:∀ b,b∈blks (I r γ')->b≠l:=by
    intro b hb' e;subst e;obtain ⟨p,hp,hb'⟩:=za1.1 hb';rcases (t3.own.out p hp b hb').2.2 with q | q
    · have q:h.next<=b:=q; omega
    · exact hlB q
  have hz2:z2 l=none:=by rw [t3.old l hl.1 hlB]; exact hl.2
  have hn2:h.next<=h2.next:=t3.chg.next;have hlen:vs.length=params.length:=by rw [zaW hvs]; exact hp x
  have fin:around (aexec T (max n1 n2)) l vs h=some (.ret (.bool r.isLeft),h2.set l (.loop (ztr { state:=.ready,pending:=none,fr:=fr0,params:=params,assign:=assign,body:=body } E r))):=by
    have c1:=zbx (T:=T) (Nat.le_max_left n1 n2) _ _ _ _ a1;have c2:=zbx (T:=T) (Nat.le_max_right n1 n2) _ _ _ _ a2;unfold around;simp only [k2,ztr,hlen,and_self,if_true,c1,hg1,c2];cases r with
    | inl s'=>rfl
    | inr t'=>
      simp only [znn,ztr];cases hE:E t'<;>rfl
  refine ⟨max n1 n2,.ret (.bool r.isLeft),h2.set l (.loop (ztr { state:=.ready,pending:=none,fr:=fr0,params:=params,assign:=assign,body:=body } E r)), ?_, ?_⟩
  · simp only [acall,List.nil_append];exact fin
  refine ⟨[.bool r.isLeft],z2,γ',rfl,rfl,⟨hn2,λb hb' hB=>?_,λm m1 m2 m3=>?_, ?_⟩,t3.zle,λb y hby=>?_,λb hb' hB=>?_, ?_,⟨λp hp=>?_,λp hp b hb'=>?_, ?_⟩⟩
  · rw [za.get_set,if_neg (λe=>by subst e; exact hB (List.mem_cons_self ..))];have:=t3.chg.same b hb' (λq=>hB (List.mem_cons_of_mem _ q));rw [this];show (h.set l _).get b=_;rw [za.get_set,if_neg (λe=>by subst e; exact hB (List.mem_cons_self ..))]
  · have ml:m<=l:=m3 l (List.mem_cons_self ..);have:=t3.chg.wm m (by show m<=min h.wm l; have m1:m<=h.wm:=m1; omega) m2 (λb hb'=>m3 b (List.mem_cons_of_mem _ hb'));show m<=min h2.wm l;omega
  · show min h2.wm l<=h2.next;have:=t3.chg.ok;omega
  · obtain ⟨q1,q2⟩:=t3.sub b y hby;exact ⟨by rw [za.get_set,if_neg (λe=>by subst e; rw [hz2] at hby; cases hby)]; exact q1,q2⟩
  · exact t3.old b hb' (λq=>hB (List.mem_cons_of_mem _ q))
  · simp only [tes,zz,TE.ok];exact ⟨_,_,rfl,zdK,rfl⟩
  · rw [show owns [RE.val zau r.isLeft] [ze.bool r.isLeft]=[] from rfl,List.nil_append,List.mem_singleton] at hp;subst hp;refine zj6 (λp hp=>?_) (by rw [za.get_set,if_pos rfl]) (k3.mono t3.zle);exact Obj.ok_mono (.refl _) (λb hb'=>by rw [za.get_set,if_neg (hl3 b (za1.2 ⟨p,hp,hb'⟩))]) (t3.own.ok p hp)
  · rw [show owns [RE.val zau r.isLeft] [ze.bool r.isLeft]=[] from rfl,List.nil_append,List.mem_singleton] at hp;subst hp;rcases List.mem_cons.1 hb' with rfl | hb'
    · exact ⟨hz2,Nat.lt_of_lt_of_le hl.1 hn2,.inr (List.mem_cons_self ..)⟩
    · obtain ⟨p,hp,hb'⟩:=za1.1 hb';obtain ⟨o1,o2,o3⟩:=t3.own.out p hp b hb';refine ⟨o1,o2, ?_⟩;rcases o3 with q | q
      · exact .inl q
      · exact .inr (List.mem_cons_of_mem _ q)
  · rw [show owns [RE.val zau r.isLeft] [ze.bool r.isLeft]=[] from rfl,List.nil_append,z8];show (l::blks (I r γ')++blks []).Nodup;simp only [blks,List.flatMap_nil,List.append_nil];exact List.nodup_cons.2 ⟨λq=>hl3 l q rfl,t3.own.nodup⟩
theorem zfa {x:ze×Obj}:∀ {is:List Nat},picks (x::L) (is.map (·+1))=picks L is
 | []=>rfl
 | i::is=>by
  simp only [List.map_cons,picks,List.getElem?_cons_succ];cases L[i]? with
  | none=>exact zfa
  | some p=>simp only [zfa]
theorem zj7:∀ {L:Own},picks L (List.range L.length)=L
 | []=>rfl
 | x::L=>by
  rw [List.length_cons,List.range_succ_eq_map];simp only [picks,List.getElem?_cons_zero];have e:(List.range L.length).map Nat.succ=(List.range L.length).map (·+1):=rfl;rw [e,zfa,zj7]
theorem zwF {σ τ X:Type} {ins:X->List TE} {step:σ->X->Option (σ⊕τ)} (I:σ⊕τ->List ze->Own) (E:τ->Option Nat) {f:Operand} {params:Array Nat} {assign body:Code} {g:FuncId} {ps cs:List TE} {s0:σ} {r:σ⊕τ} {Lr:Own} (γ0:List ze) (ks js:List Nat)
    (hcst:T.consts.get g=none) (hf:Opd Γ f (.val (zoz g ps cs) ())) (h0:picks L ks=I (.inl s0) γ0) (hr:picks L js=Lr) (hn:(ks++js).Nodup) (hp:∀ x,(ins x).length=params.size)
    (hit:∀ (yv:ze) (K:σ⊕τ->List ze->Obj),zua T yv ins step K->∀ γ,zjn T g (ps++[.raw yv]++cs) [(yv,K (.inl s0) γ)] [] λγ'=>[(yv,K r γ')])
    (hb:∀ s γ x r,step s x=some r->∀ C,zdX C T assign (zud params.toList (ins x) Γ) (I (.inl s) γ) (zz6 C T body I E r))
    (out:∀ γ fr h,St C Γ (I r γ++Lr) fr h->P (znn E r) fr h):zdX C T (.rangeFunc f params assign body) Γ L P:=by
  subst hr;intro fr h ⟨z,s⟩;obtain ⟨us0,vs0,ev,hps,hcs⟩:=zj5 (hf.val s.fr);have hpk:StZ C Γ (I (.inl s0) γ0++picks L js) z fr h:=by
    have e:picks L (ks++js)=I (.inl s0) γ0++picks L js:=by rw [zfR,h0]
    rw [← e];exact { s with own:=⟨λp hp=>s.own.ok p (zbh hp),λp hp=>s.own.out p (zbh hp),zcm s.own.nodup hn⟩ }
  generalize picks L js=Lr at hpk out
  let B:zhA:={ state:=.ready,pending:=none,fr:=fr,params:=params.toList,assign:=assign,body:=body }
  have cb:zua T (.func (.yield h.next) [] []) ins step (zgo h.next B Γ I E):=zpz (by simpa using hp) hb;have s2:StZ C Γ ((.func (.yield h.next) [] [],.cb [h.next] λ_ h'=>h'.get h.next=some (.loop B))::(I (.inl s0) γ0++Lr)) z fr (h.push (.loop B)):=
    hpk.pushOwn (.loop B) rfl ⟨by show (h.push (.loop B)).get h.next=_; rw [za.get_push,if_pos rfl],λ_ _ h1 h1' _ hb q=>by
      have q:h1.get h.next=some (.loop B):=q;show h1'.get h.next=_;rw [hb _ (List.mem_singleton.2 rfl)]; exact q⟩
  have s3:StZ C Γ ((.func (.yield h.next) [] [],zgo h.next B Γ I E (.inl s0) γ0)::Lr) z fr (h.push (.loop B)):=by
    refine s2.repack (List.Perm.of_eq ?_) λp hp'=>?_
    · rw [z8,z8];show (h.next::blks (I (.inl s0) γ0))++blks Lr=[h.next]++blks (I (.inl s0) γ0++Lr);simp [blks]
    · rcases List.mem_cons.1 hp' with rfl | hp'
      · exact zj6 (λp hp=>s2.own.ok p (List.mem_cons_of_mem _ (List.mem_append_left _ hp))) (by rw [za.get_push,if_pos rfl]; rfl) s.fr
      · exact s2.own.ok p (List.mem_cons_of_mem _ (List.mem_append_right _ hp'))
  have hjs:picks ((.func (.yield h.next) [] [],zgo h.next B Γ I E (.inl s0) γ0)::Lr) ((List.range Lr.length).map (·+1))=Lr:=by rw [zfa,zj7]
  have hnd:([0]++(List.range Lr.length).map (·+1)).Nodup:=by
    refine List.nodup_append.2 ⟨by simp,List.Pairwise.map _ (λa b q e=>q (by omega)) List.nodup_range,λa ha b hb e=>?_⟩;rw [List.mem_singleton] at ha;subst ha;obtain ⟨i,_,q⟩:=List.mem_map.1 hb;omega
  have hL:=s3.lent (ks:=[0]) (by simp);have hcall:=hit _ _ cb γ0 z (h.push (.loop B)) (us0++[.func (.yield h.next) [] []]++vs0) s3.sub s3.chg.ok (zbF (zbF hps (by simp [zz,TE.ok])) hcs) hL;have hcall:=zcw (a:=us0) (b:=vs0) hcst hcall;obtain ⟨n,r',h2,hrun,us,z',γ,e1,hl,q,hz,hs,hold,hok,hown⟩:=hcall;have hus:us=[]:=List.length_eq_zero_iff.1 hl;subst hus;have s4:=s3.afterM (ks:=[0]) (js:=(List.range Lr.length).map (·+1)) hnd q hz hs hold hown;rw [hjs] at s4;have s4:StZ C Γ ((.func (.yield h.next) [] [],zgo h.next B Γ I E r γ)::Lr) z' fr h2:=s4;obtain ⟨⟨o1,o2,_⟩,_⟩:=s4.own.ok _ (List.mem_cons_self ..);obtain ⟨w1,w2,w3⟩:=s4.own.out _ (List.mem_cons_self ..) h.next (List.mem_cons_self ..);have hnd4:(h.next::(blks (I r γ)++blks Lr)).Nodup:=by
    have:=s4.own.nodup;rw [z8] at this;exact this
  have hblk:blks (I r γ++Lr)=blks (I r γ)++blks Lr:=by simp [blks]
  have s5:StZ C Γ (I r γ++Lr) z' fr h2:=by
    refine { s4 with own:=⟨λp hp'=>?_,λp hp' b hb'=>?_,by rw [hblk]; exact (List.nodup_cons.1 hnd4).2⟩ }
    · rcases List.mem_append.1 hp' with hp' | hp'
      · exact o1 p hp'
      · exact s4.own.ok p (List.mem_cons_of_mem _ hp')
    · rcases List.mem_append.1 hp' with hp' | hp'
      · exact s4.own.out _ (List.mem_cons_self ..) b (List.mem_cons_of_mem _ (za1.2 ⟨p,hp',hb'⟩))
      · exact s4.own.out p (List.mem_cons_of_mem _ hp') b hb'
  have s6:∀ x,StZ C Γ (I r γ++Lr) z' fr (h2.set h.next x):=λx=>s5.wild w1 w2 w3 (by rw [hblk]; exact (List.nodup_cons.1 hnd4).1) x;have hrun':acall T (aexec T n) (fr.op f) [.func (.yield h.next) [] []] (h.push (.loop { state:=.ready,pending:=none,fr:=fr,params:=params.toList,assign:=assign,body:=body }))=some (r',h2):=by rw [ev]; exact hrun
  subst e1;refine ⟨n+1,znn E r,fr,h2.set h.next (.loop { ztr B E r with state:=.exhausted }), ?_,out γ fr _ ⟨z',s6 _⟩⟩;simp only [aexec,hrun',o2];cases r with
  | inl s'=>rfl
  | inr t'=>
    simp only [ztr,znn];cases hE:E t'<;>rfl
def goL {σ τ:Type}:σ⊕τ->Option σ
 | .inl s=>some s
 | .inr _=>none
theorem zrN {σ τ:Type} {r:σ⊕τ} {s:σ} (h:goL r=some s):r=.inl s:=by
 cases r with
 | inl a=>cases h; rfl
 | inr b=>cases h
def zA4 {σ τ A:Type} {B:Type 1} (f:σ->A->B) (g:τ->A->B):σ⊕τ->A->B
 | .inl s=>f s
 | .inr t=>g t
theorem zvC {σ τ:Type} {K:σ⊕τ->List ze->Obj} {yv:ze} {r:σ⊕τ} {s:σ} {γ:List ze} (k:Nat) (hr:r=.inl s) (hk:L[k]?=some (yv,K r γ)) {L':Own} (hL:zfn L k (yv,K (.inl s) γ)=some L'):∀ z fr h,StZ C Γ L z fr h->∃ z',z.le z'/\StZ C Γ L' z' fr h:=λz fr h s0=>by
 subst hr;obtain ⟨rfl,_⟩:=zhU hL;rw [set_same hk];exact ⟨z,.refl _,s0⟩
theorem zrO {g:FuncId} {as:List TE} {L0:Own} {rs:List RE} {yv:ze} {F:List ze->Obj} (h:zjn T g as L0 rs λγ=>[(yv,F (untup (gh γ 0)))]):zjn T g as L0 rs λγ=>[(yv,F γ)]:=λz hp vs h1 h2 h3 h4=>
 (h z hp vs h1 h2 h3 h4).mono λ_ _ ⟨us,z',γ,q⟩=>⟨us,z',untup (gh γ 0),q⟩
def zgp (g:FuncId) (cs:List TE):Rep Unit:=
 ⟨1,false,λz xs _=>∃ b us ro,xs=[.ptr b 0]/\z b=some (.arr [.func (.func g) [] (us++[.ptr b 0])] ro)/\zz z cs us,λ_ _ _ h=>by obtain ⟨_,_,_,h,_⟩:=h; rw [h]; rfl,
  λ_ _ _ _ e h=>let ⟨b,us,ro,h1,h2,h3⟩:=h; ⟨b,us,ro,h1,e _ _ h2,zdg e h3⟩,λ_=>rfl,λ_ _ _ h=>by obtain ⟨_,_,_,h,_⟩:=h; rw [h]; rfl⟩
theorem zrP {g:FuncId} {cs:List TE} {v:ze} {x:Unit} (q:TV (zgp g cs) z v x):∃ b us ro,v=.ptr b 0/\z b=some (.arr [.func (.func g) [] (us++[.ptr b 0])] ro)/\zz z cs us:=by
 obtain ⟨⟨b,us,ro,h1,h2,h3⟩,h4⟩:=q;refine ⟨b,us,ro, ?_,h2,h3⟩;cases v<;>simp_all [ze.isAgg,ze.cells,zgp]
theorem zqx {e:TE} {es:List TE} {b:Nat} (k:Nat) (ts:List Nat) (hc:∀ z cells,z b=some (.arr cells false)->zz z es cells->e.ok z (.ptr b 0)) {L':Own} (hk:L[k]?=some (.ptr b 0,.box es)) (hL:zdM L k=some L') (hts:zhX Γ (.ptr b 0) ts):∀ z fr h,StZ C Γ L z fr h->∃ z',z.le z'/\StZ C (zfG ts e Γ) L' z' fr h:=by
 intro z fr h s;have ho:=s.own.ok _ (List.mem_of_getElem? hk);simp only [Obj.ok] at ho;obtain ⟨b',cells,q,h2,h3,h4⟩:=ho;cases q;obtain ⟨o1,o2,o3⟩:=s.own.out _ (List.mem_of_getElem? hk) b (by simp [zeA,zhP]);have hle:z.le (z.add b (.arr cells false)):=zhW o1;have s':=s.drop hL;have hne:∀ p∈L',∀ c,c∈zeA p->c≠b:=by
  intro p hp c hcb e;subst e;have hp':=(List.Perm.flatMap_right zeA (zek hk hL)).nodup_iff.2 s.own.nodup;have hp':(blks ((ze.ptr c 0,Obj.box es)::L')).Nodup:=hp';rw [z8] at hp';exact (List.nodup_append.1 hp').2.2 c (by simp [zeA,zhP]) c (za1.2 ⟨p,hp,hcb⟩) rfl
 refine ⟨z.add b (.arr cells false),hle,{ zle:=s.zle.trans hle,sub:=?_,old:=?_,fr:=zel (hc _ _ zgB (zdg hle h3)) hts (s.fr.mono hle),own:=⟨λp hp=>Obj.ok_mono hle (λ_ _=>rfl) (s'.own.ok p hp),λp hp c hc=>?_,s'.own.nodup⟩,chg:=s.chg }⟩
 . intro c y hc;by_cases e:c=b
   . subst e; rw [zgB] at hc; cases hc; exact ⟨h2,o2⟩
   . rw [add_ne e] at hc; exact s.sub c y hc
 . intro c hc hB;rw [add_ne]
   . exact s.old c hc hB
   . intro e; subst e;rcases o3 with q | q
     . omega
     . exact hB q
 . obtain ⟨q1,q2,q3⟩:=s'.own.out p hp c hc;exact ⟨by rw [add_ne (hne p hp c hc)]; exact q1,q2,q3⟩
theorem zue {g:FuncId} {cs cs':List TE} {b:Nat} (e:cs'=cs++[.raw (.ptr b 0)]):∀ z cells,z b=some (.arr cells false)->zz z [.val (zoz g [] cs') ()] cells->(TE.val (zgp g cs) ()).ok z (.ptr b 0):=λz cells hz h=>by
 subst e;simp only [zz,TE.ok] at h ⊢;obtain ⟨v,vs,rfl,h1,rfl⟩:=h;obtain ⟨us,ws,rfl,h2,h3⟩:=zj5 h1;simp only [zz] at h2;subst h2;obtain ⟨u1,u2,rfl,h4,h5⟩:=zdv.1 h3;simp only [zz,TE.ok] at h5;obtain ⟨w,ws',rfl,rfl,rfl⟩:=h5;exact ⟨⟨b,u1,false,rfl,hz,h4⟩,rfl⟩
theorem zlm {g:FuncId} {cs cs':List TE} {x:Operand} {et:TypeId} (e:cs'=cs++[.val (zgp g cs) ()]) (hu:Und T et zqR) (hw:Want ops Γ true o.guard) (ho:o.op=.load et x) (hd:o.dst=some t)
 (hx:Opd Γ x (.val (zgp g cs) ())) (r:zr C T d ops rest ((t,.val (zoz g [] cs') ())::Γ) L Q):zr C T d ops (o::rest) Γ L Q:=by
 subst e;have hf:∀ z fr h,StZ C Γ L z fr h->foot fr.op o=⟨zK (fr.op x),false,[],false⟩:=λz fr h s=>by unfold foot; rw [ho]
 have hq:∀ z fr h,StZ C Γ L z fr h->∀ b,b∈zK (fr.op x)->z b≠none/\b<h.next:=λz fr h s b hb=>by
  obtain ⟨b',us,ro,h1,h2,_⟩:=zrP (hx.val s.fr);rw [h1] at hb;simp [zK] at hb;subst hb;exact ⟨by rw [h2]; exact λq=>(nomatch q),(s.sub _ _ h2).2⟩
 refine zeS (.f λz fr h s=>by rw [hf z fr h s]; exact ⟨rfl,rfl,λb hb=>(hq z fr h s b hb).1,λq=>by rw [ho] at q; cases q⟩) (λz fr h s=>by rw [hf z fr h s]; exact ⟨λb hb=>(hq z fr h s b hb).2,λb hb=>(nomatch hb)⟩) hw hd (λz fr h s=>?_) r;have hv:=hx.val s.fr;obtain ⟨b,us,ro,h1,h2,h3⟩:=zrP hv;have hrel:zqR.rel z (([ze.func (.func g) [] (us++[.ptr b 0])].drop 0).take zqR.sz) (.func (.func g) [] (us++[.ptr b 0])):=⟨rfl,rfl,rfl⟩;obtain ⟨v,h5,h6⟩:=zeu (R:=zqR) hu.sz hu.agg (by simp [zqR]) hrel;have hv':=zvB h6;subst hv';refine ⟨.func (.func g) [] (us++[.ptr b 0]), ?_, ?_⟩
 . rw [ho];simp only [aop,h1,aload,(s.sub _ _ h2).1,h5,zS,Option.map]
 . simp only [TE.ok];refine ⟨⟨[],us++[.ptr b 0],rfl,by simp only [zz], ?_⟩,rfl⟩;refine zbF h3 ?_;simp only [zz,TE.ok];rw [h1] at hv;exact ⟨_,_,rfl,hv,rfl⟩
theorem zz7 {Γ':Env} {L':Own} {R:zf->za->Prop} (is:List Nat) (q:zlW Γ Γ') (hL:picks L is=L') (hn:is.Nodup) (k:∀ fr h,St C Γ' L' fr h->R fr h):∀ fr h,St C Γ L fr h->R fr h:=λfr h s=>k fr h (s.pick is q hL hn)
def zyU (C:Ctx) (Γ:Env) (L:Own) (x:Operand) (e:TE):Prop:=∀ z fr h,StZ C Γ L z fr h->e.ok h.st (fr.op x)
inductive zno (C:Ctx) (Γ:Env) (L:Own):List Operand->List TE->Prop where
 | n:zno C Γ L [] []
 | c {x:Operand} {e:TE} {xs:List Operand} {es:List TE} (h:zyU C Γ L x e) (r:zno C Γ L xs es):zno C Γ L (x::xs) (e::es)
theorem zno.ok {xs:List Operand} {es:List TE} (q:zno C Γ L xs es) (s:StZ C Γ L z fr h):zz h.st es (xs.map fr.op):=by
 induction q with
 | n=>simp [zz]
 | c h _ ih=>simp only [zz,List.map]; exact ⟨_,_,rfl,h _ _ _ s,ih⟩
def zz8 (C:Ctx) (Γ:Env) (L:Own) (e e':TE):Prop:=∀ z fr h a,StZ C Γ L z fr h->e.ok z a->e'.ok h.st a
inductive zrQ (C:Ctx) (Γ:Env) (L:Own):List TE->List TE->Prop where
 | n:zrQ C Γ L [] []
 | c {e e':TE} {es es':List TE} (h:zz8 C Γ L e e') (r:zrQ C Γ L es es'):zrQ C Γ L (e::es) (e'::es')
theorem zrQ.ok {es es':List TE} (q:zrQ C Γ L es es') (s:StZ C Γ L z fr h):∀ {vs:List ze},zz z es vs->zz h.st es' vs:=by
 induction q with
 | n=>intro vs h; simpa [zz] using h
 | c h _ ih=>
  intro vs hv;simp only [zz] at hv ⊢;obtain ⟨v,vs',rfl,h1,h2⟩:=hv;exact ⟨v,vs',rfl,h _ _ _ _ s h1,ih h2⟩
end
end Go.Ai.Sx
/- Maps from numbers that are owned. -/
namespace Go.Ai.Sx
def mget {A B:Type} [DecidableEq A]:List (A×B)->A->Option B
 | [],_=>none
 | (k,v)::es,x=>if x=k then some v else mget es x
def mset {A B:Type} [DecidableEq A]:List (A×B)->A->B->List (A×B)
 | [],x,v=>[(x,v)]
 | (k,w)::es,x,v=>if x=k then (x,v)::es else (k,w)::mset es x v
structure zwG (T:Tab) (kt:TypeId) {A:Type} [DecidableEq A] (Q:Rep A):Prop where
 plain:∀ z v x,TV Q z v x->zgP T kt v=true
 eq:∀ z z' v v' x y,TV Q z v x->TV Q z' v' y->akey v v'=some (decide (x=y))
structure KF (T:Tab) (fs:List Field) (i:Nat) {A:Type} [DecidableEq A] (R:Rep A):Prop where
 plain:∀ z cs x,R.rel z cs x->zfe T i fs cs=true
 eq:∀ z z' cs ds x y,R.rel z cs x->R.rel z' ds y->akeys cs ds=some (decide (x=y))
theorem zrR {A:Type} {R:Rep A} {z:Store} {v:ze} {x:A} (h:TV R z v x) (ha:R.agg=true):∃ cs,v=.agg cs/\R.rel z cs x:=by
 have h1:=h.rel;have h2:=h.agg;rw [ha] at h2;cases v<;>first | exact ⟨_,rfl,h1⟩ | cases h2
theorem zvD {T:Tab} {i:Nat}:KF T [] i zcR:=by
 refine ⟨λz cs x h=>?_,λz z' cs ds x y h h'=>?_⟩
 . have:cs=[]:=h;rw [this]; rfl
 . have e1:cs=[]:=h;have e2:ds=[]:=h';rw [e1,e2]; simp [akeys]
theorem zj8 {A B:Type} [DecidableEq A] [DecidableEq B] (x y:A×B):decide (x=y)=(decide (x.1=y.1)&&decide (x.2=y.2)):=by
 rcases x with ⟨a,b⟩;rcases y with ⟨c,d⟩;simp only [Prod.mk.injEq,Bool.decide_and]
theorem zvE {T : Tab} {f : Field} {fs : List Field} {i : Nat} {k : IntKind} {B : Type} [DecidableEq B] {S : Rep B} (hn : (f.name != "_") = true) (ho : Nat.beq f.offset i = true) (hu : T.und f.type = some (.int k)) (r : KF T fs (i + 1) S) : KF T (f :: fs) i (zH (zj k) S) := by
 refine ⟨fun z cs x h=>?_,fun z z' cs ds x y h h'=>?_⟩
 ·obtain ⟨c1,c2,rfl,⟨rfl,_⟩,h2⟩:=h;simp [zfe,hn,ho,zhB,hu,r.plain z c2 _ h2]
 ·obtain ⟨c1,c2,rfl,⟨rfl,_⟩,h2⟩:=h;obtain ⟨d1,d2,rfl,⟨rfl,_⟩,h2'⟩:=h';rw [zj8];simp only [List.cons_append,List.nil_append,akeys,zhf,if_true,r.eq z z' _ _ _ _ h2 h2'];by_cases e:x.1=y.1
  ·rw [e]; simp
  ·rw [(by simpa using e:(x.1==y.1)=false)]; simp [e]
theorem zrS {T : Tab} {f : Field} {fs : List Field} {i : Nat} {B : Type} [DecidableEq B] {S : Rep B} (hn : (f.name != "_") = true) (ho : Nat.beq f.offset i = true) (hu : T.und f.type = some .bool) (r : KF T fs (i + 1) S) : KF T (f :: fs) i (zH zau S) := by
 refine ⟨fun z cs x h=>?_,fun z z' cs ds x y h h'=>?_⟩
 ·obtain ⟨c1,c2,rfl,h1,h2⟩:=h;have h1:c1=[.bool x.1]:=h1;subst h1;simp [zfe,hn,ho,zhB,hu,r.plain z c2 _ h2]
 ·obtain ⟨c1,c2,rfl,h1,h2⟩:=h;obtain ⟨d1,d2,rfl,h1',h2'⟩:=h';have h1:c1=[.bool x.1]:=h1;have h1':d1=[.bool y.1]:=h1';subst h1 h1';rw [zj8];simp only [List.cons_append,List.nil_append,akeys,zhf,r.eq z z' _ _ _ _ h2 h2'];by_cases e:x.1=y.1
  ·rw [e]; simp
  ·rw [(by simpa using e:(x.1==y.1)=false)]; simp [e]
theorem zvF {T:Tab} {kt:TypeId} {fs:Array Field} {A:Type} [DecidableEq A] {R:Rep A} (hu:T.und kt=some (.struct fs)) (hs:(!((T.types.get kt).map (·.stood)).getD true)=true) (ha:R.agg=true) (r:KF T fs.toList 0 R):zwG T kt R:=by
 refine ⟨λz v x h=>?_,λz z' v v' x y h h'=>?_⟩
 . obtain ⟨cs,rfl,h1⟩:=zrR h ha;simp [zgP,hu,r.plain z cs x h1] at hs ⊢;exact hs
 . obtain ⟨cs,rfl,h1⟩:=zrR h ha;obtain ⟨ds,rfl,h2⟩:=zrR h' ha;exact r.eq z z' cs ds x y h1 h2
section
variable {A B:Type} [DecidableEq A]
def ziB {A B:Type} (Q:Rep A) (R:Rep B) (z:Store) (l:List (ze×ze)) (es:List (A×B)):Prop:=
 l.length=es.length/\∀ (i:Nat) (p:ze×ze) (q:A×B),l[i]?=some p->es[i]?=some q->TV Q z p.1 q.1/\TV R z p.2 q.2
theorem zfS {A B:Type} {Q:Rep A} {R:Rep B} {z:Store} {p:ze×ze} {l:List (ze×ze)} {q:A×B} {es:List (A×B)}:ziB Q R z (p::l) (q::es)↔(TV Q z p.1 q.1/\TV R z p.2 q.2)/\ziB Q R z l es:=by
 constructor
 . rintro ⟨h1,h2⟩
   refine ⟨h2 0 p q rfl rfl,by simpa using h1,λi p' q' hp hq=>h2 (i+1) p' q' (by simpa using hp) (by simpa using hq)⟩
 . rintro ⟨h1,h2,h3⟩
   refine ⟨by simp [h2],λi p' q' hp hq=>?_⟩;cases i with
   | zero=>simp at hp hq; subst hp hq; exact h1
   | succ i=>exact h3 i p' q' (by simpa using hp) (by simpa using hq)
theorem ziB.mono {A B:Type} {Q:Rep A} {R:Rep B} {z z':Store} {l:List (ze×ze)} {es:List (A×B)} (e:z.le z') (h:ziB Q R z l es):ziB Q R z' l es:=
 ⟨h.1,λi p q hp hq=>⟨(h.2 i p q hp hq).1.mono e,(h.2 i p q hp hq).2.mono e⟩⟩
theorem zj9 {T:Tab} {kt:TypeId} {Q:Rep A} {R:Rep B} {z:Store} {kv:ze} {x:A} (hQ:zwG T kt Q) (hkv:TV Q z kv x):∀ {l:List (ze×ze)} {es:List (A×B)} {n:Nat},ziB Q R z l es ->
    (mget es x=none/\afind kv l n=some none/\∀ (v:ze) (w:B),TV R z v w->ziB Q R z (l++[(kv,v)]) (mset es x w)) \/
    (∃ i v y,mget es x=some y/\afind kv l n=some (some (n+i,v))/\TV R z v y/\∀ (v:ze) (w:B),TV R z v w->ziB Q R z (l.set i (kv,v)) (mset es x w))
  | [],[],n,h=>.inl ⟨rfl,rfl,λv w hw=>zfS.2 ⟨⟨hkv,hw⟩,h⟩⟩
  | [],_::_,_,h=>by have:=h.1; simp at this
  | _::_,[],_,h=>by have:=h.1; simp at this
  | (pk,pv)::l,(qk,qv)::es,n,h=>by
    obtain ⟨⟨h1,h2⟩,h3⟩:=zfS.1 h;have ek:=hQ.eq z z kv pk x qk hkv h1;by_cases e:x=qk
    · subst e;rw [decide_eq_true rfl] at ek;right;refine ⟨0,pv,qv,by simp [mget],by simp [afind,ek],h2,λv w hw=>?_⟩;simp only [List.set_cons_zero,mset,if_true];exact zfS.2 ⟨⟨hkv,hw⟩,h3⟩
    · rw [decide_eq_false e] at ek;rcases zj9 (n:=n+1) hQ hkv h3 with ⟨a1,a2,a3⟩ | ⟨i,v,y,a1,a2,a3,a4⟩
      · left;refine ⟨by simp [mget,e,a1],by simp [afind,ek,a2],λv w hw=>?_⟩;simp only [mset,if_neg e,List.cons_append];exact zfS.2 ⟨⟨h1,h2⟩,a3 v w hw⟩
      · right;refine ⟨i+1,v,y,by simp [mget,e,a1],by simp only [afind,ek,a2]; congr 3; omega,a3,λv w hw=>?_⟩;simp only [mset,if_neg e,List.set_cons_succ];exact zfS.2 ⟨⟨h1,h2⟩,a4 v w hw⟩
end
structure Mp (T:Tab) (mt:TypeId) {A:Type} [DecidableEq A] (Q:Rep A) (et:TypeId):Prop where
 und:∃ kt,T.und mt=some (.map kt et)/\zwG T kt Q
def zqS {A B:Type} (Q:Rep A) (R:Rep B):Rep (List (A×B)):=
 ⟨1,false,λz cs es=>∃ v,cs=[v]/\((v=.nilmap/\es=[])\/∃ b l,v=.map b/\z b=some (.mp l)/\ziB Q R z l es),λ_ _ _ h=>by obtain ⟨v,h,_⟩:=h; rw [h]; rfl,
  λ_ _ _ _ e h=>let ⟨v,h1,h2⟩:=h; ⟨v,h1,h2.imp id λ⟨b,l,g1,g2,g3⟩=>⟨b,l,g1,e _ _ g2,g3.mono e⟩⟩,
  λ_=>rfl,λ_ _ _ h=>by
   obtain ⟨v,h,r⟩:=h;rw [h];rcases r with ⟨rfl,_⟩ | ⟨b,l,rfl,_⟩<;>rfl⟩
theorem zvG {A B:Type} {Q:Rep A} {R:Rep B} {z:Store} {v:ze} {es:List (A×B)} (h:TV (zqS Q R) z v es):(v=.nilmap/\es=[])\/∃ b l,v=.map b/\z b=some (.mp l)/\ziB Q R z l es:=by
 have h1:=h.rel;have h2:=h.agg;obtain ⟨v',q,r⟩:=h1;have:v=v':=by
  cases v<;>simp_all [ze.cells,zqS,ze.isAgg]
 subst this;exact r
theorem zrT {A B:Type} {Q:Rep A} {R:Rep B} {z:Store} {b:Nat} {l:List (ze×ze)} {es:List (A×B)} (h:z b=some (.mp l)) (r:ziB Q R z l es):TV (zqS Q R) z (.map b) es:=⟨⟨_,rfl,.inr ⟨b,l,rfl,h,r⟩⟩,rfl⟩
section
variable {A:Type} [DecidableEq A]
variable {C:Ctx} {T:Tab} {d:Option (List Nat)} {ops rest:List Oper} {Γ:Env} {L:Own} {Q:zf->za->Prop} {P:zab->zf->za->Prop} {o:Oper} {t:Nat} {z:Store} {fr:zf} {h:za}
theorem zrU {B:Type} {K:Rep A} (R:Rep B) {mt et:TypeId} {r:Option Operand} (hm:Mp T mt K et) (hr:r=none) (hw:Want ops Γ true o.guard) (ho:o.op=.makeMap mt r) (hd:o.dst=some t)
 (go:∀ b,zr C T d ops rest ((t,.raw (.map b))::Γ) ((.map b,.mp K R [])::L) Q):zr C T d ops (o::rest) Γ L Q:=by
 subst hr;obtain ⟨kt,h1,h2⟩:=hm.und;have hno:zcZ o.op=true:=by rw [ho]; rfl
 refine zfC hw (nf hno) λz fr h s=>?_;refine ⟨.map h.next,h.push (.mp []),z,_,_,by rw [ho]; simp only [aop,zey,h1],nfo hno,.refl _, ?_,go h.next⟩;rw [hd,zaI];refine (s.pushOwn (.mp []) (v:=.map h.next) (ob:=.mp K R []) rfl ?_).set (by simp only [TE.ok]);simp only [Obj.ok];exact ⟨h.next,[],rfl,by rw [za.get_push,if_pos rfl],rfl,by simp⟩
theorem zpA {B:Type} {K:Rep A} {R:Rep B} {mt et:TypeId} {m x y:Operand} {b:Nat} {es:List (A×B)} {i:A} {w:B} (kk:Nat) (hm:Mp T mt K et) (ho:o.op=.mapUpdate mt m x y\/o.op=.insert mt m x y) (hk:L[kk]?=some (.map b,.mp K R es)) (hw:Want ops Γ true o.guard) (hd:o.dst=none)
 (hmx:Opd Γ m (.raw (.map b))) (hx:Opd Γ x (.val K i)) (hy:Opd Γ y (.val R w)) {L':Own} (hL:zfn L kk (.map b,.mp K R (mset es i w))=some L') (r:zr C T d ops rest Γ L' Q):zr C T d ops (o::rest) Γ L Q:=by
 obtain ⟨kt,h1,h2⟩:=hm.und;have hft:∀ fr:zf,foot fr.op o=⟨[],false,zK (fr.op m),false⟩:=λfr=>by
  rcases ho with ho | ho<;>(unfold foot; rw [ho])
 have hop:∀ (fr:zf) (h:za),aop T fr.op h o.op=zf1 (zbo T mt (fr.op m) (fr.op x) (fr.op y) h):=λfr h=>by
  rcases ho with ho | ho<;>rw [ho]<;>rfl
 refine zi3 (.w (by rcases ho with ho | ho<;>rw [ho]<;>rfl) (λt a q=>by rcases ho with ho | ho<;>(rw [ho] at q; cases q)) (by rcases ho with ho | ho<;>rw [ho]<;>rfl) (λq=>by rcases ho with ho | ho<;>(rw [ho] at q; cases q))) (λz fr h s=>by
  rw [hft];exact ⟨λb hb=>(nomatch hb),λb' hb=>zeZ s hk rfl b' (by simpa [zK,hmx.raw s.fr] using hb)⟩) hw hd (λz fr h s=>?_) r
 have hob:=s.own.ok _ (List.mem_of_getElem? hk);simp only [Obj.ok] at hob;obtain ⟨b',l,e,g1,g2,g3⟩:=hob;cases e;have hpk:=h2.plain z _ i (hx.val s.fr);rcases zj9 (n:=0) (l:=l) (es:=es) (R:=R) h2 (hx.val s.fr) ⟨g2,g3⟩ with ⟨a1,a2,a3⟩ | ⟨j,v,y',a1,a2,a3,a4⟩
 . obtain ⟨k1,k2⟩:=a3 _ w (hy.val s.fr);refine ⟨.tuple [],h.set b (.mp (l++[(fr.op x,fr.op y)])), ?_,s.upd hk rfl rfl _ ?_ hL⟩
   . rw [hop,hmx.raw s.fr];simp only [zbo,h1,hpk,if_true,g1,a2];rfl
   . simp only [Obj.ok];exact ⟨b,_,rfl,by rw [za.get_set,if_pos rfl],k1,k2⟩
 . obtain ⟨k1,k2⟩:=a4 _ w (hy.val s.fr);refine ⟨.tuple [],h.set b (.mp (l.set j (fr.op x,fr.op y))), ?_,s.upd hk rfl rfl _ ?_ hL⟩
   . rw [hop,hmx.raw s.fr];simp only [zbo,h1,hpk,if_true,g1,a2];rw [Nat.zero_add]; rfl
   . simp only [Obj.ok];exact ⟨b,_,rfl,by rw [za.get_set,if_pos rfl],k1,k2⟩
theorem zl9 {B:Type} {K:Rep A} {R:Rep B} {mt et:TypeId} {m kv:ze} {l:List (ze×ze)} {es:List (A×B)} {i:A} {w0:B} (hm:Mp T mt K et) (hz:Zr T et R w0) (hkv:TV K z kv i) (hr:ziB K R z l es)
 (hg:(m=.nilmap/\l=[])\/∃ b,m=.map b/\h.get b=some (.mp l)) (ok:Bool) :
 ∃ v,alookup T mt m kv ok h=some (if ok then .tuple [v,.bool (mget es i).isSome] else v)/\TV R z v ((mget es i).getD w0):=by
 obtain ⟨kt,h1,h2⟩:=hm.und;have hpk:=h2.plain z _ i hkv;obtain ⟨zv,z1,z2⟩:=hz.zero;rcases hg with ⟨rfl,rfl⟩ | ⟨b,rfl,g⟩
 . have:es=[]:=List.eq_nil_of_length_eq_zero hr.1.symm;subst this;refine ⟨zv, ?_,by simp only [mget,Option.getD_none]; exact z2 z⟩;simp only [alookup,h1,hpk,if_true,afind,z1,mget];cases ok<;>rfl
 . rcases zj9 (n:=0) h2 hkv hr with ⟨a1,a2,_⟩ | ⟨j,v,y',a1,a2,a3,_⟩
   . refine ⟨zv, ?_,by rw [a1]; exact z2 z⟩;simp only [alookup,h1,hpk,if_true,g,a2,z1,a1];cases ok<;>rfl
   . refine ⟨v, ?_,by rw [a1]; exact a3⟩;simp only [alookup,h1,hpk,if_true,g,a2,a1];cases ok<;>rfl
theorem zuf {B:Type} {K:Rep A} {R:Rep B} {mt et:TypeId} {b:Nat} {es:List (A×B)} {kv:ze} {i:A} {w0:B} {kk:Nat} (hm:Mp T mt K et) (hz:Zr T et R w0) (hk:L[kk]?=some (.map b,.mp K R es)) (hkv:TV K z kv i) (ok:Bool) (s:StZ C Γ L z fr h) :
 ∃ v,alookup T mt (.map b) kv ok h=some (if ok then .tuple [v,.bool (mget es i).isSome] else v)/\TV R z v ((mget es i).getD w0):=by
 have hob:=s.own.ok _ (List.mem_of_getElem? hk);simp only [Obj.ok] at hob;obtain ⟨b',l,e,g1,g2,g3⟩:=hob;cases e;exact zl9 hm hz hkv ⟨g2,g3⟩ (.inr ⟨b,rfl,g1⟩) ok
theorem zyV {B:Type} {K:Rep A} {R:Rep B} {mt et:TypeId} {m x:Operand} {b:Nat} {es:List (A×B)} {i:A} {w0:B} (kk:Nat) (hls:d=none) (hm:Mp T mt K et) (hz:Zr T et R w0) (hk:L[kk]?=some (.map b,.mp K R es)) (hw:Want ops Γ true o.guard) (ho:o.op=.lookup mt m x false) (hd:o.dst=some t)
 (hmx:Opd Γ m (.raw (.map b))) (hx:Opd Γ x (.val K i)) (r:zr C T d ops rest ((t,.val R ((mget es i).getD w0))::Γ) L Q):zr C T d ops (o::rest) Γ L Q:=by
 subst hls;intro fr h ⟨z,s⟩;obtain ⟨v,e1,e2⟩:=zuf hm hz hk (hx.val s.fr) false s;have ha:aop T fr.op h o.op=some (.val v h):=by
  rw [ho]; simp only [aop,hmx.raw s.fr,e1,zS,Option.map,Bool.false_eq_true,if_false]
 simp only [wX,hw.ok s.fr,ha,hd,zaI];exact r _ _ ⟨z,s.set (by simp only [TE.ok]; exact e2)⟩
theorem znp (ev:Operand->ze) {mt:TypeId} {m x:Operand} {ok:Bool} (ho:o.op=.lookup mt m x ok):foot ev o=⟨zK (ev m),false,[],false⟩:=by unfold foot; rw [ho]
theorem lookq {B:Type} {K:Rep A} {R:Rep B} {mt et:TypeId} {m x:Operand} {es:List (A×B)} {i:A} {w0:B} {ok:Bool} (hm:Mp T mt K et) (hz:Zr T et R w0) (ho:o.op=.lookup mt m x ok)
 (hmx:Opd Γ m (.val (zqS K R) es)) (hx:Opd Γ x (.val K i)) :
 Rd C d ops rest Γ L o/\(∀ z fr h,StZ C Γ L z fr h->zi2 z h (foot fr.op o))/\∀ z fr h,StZ C Γ L z fr h->∃ v,aop T fr.op h o.op=some (.val (if ok then .tuple [v,.bool (mget es i).isSome] else v) h)/\TV R z v ((mget es i).getD w0):=by
 have key:∀ z fr h,StZ C Γ L z fr h->∀ b,b∈zK (fr.op m)->z b≠none/\b<h.next:=by
  intro z fr h s b hb;rcases zvG (hmx.val s.fr) with ⟨q,_⟩ | ⟨c,l,q,q2,_⟩
  . rw [q] at hb; cases hb
  . rw [q] at hb;have:b=c:=by simpa [zK] using hb
    subst this;exact ⟨by rw [q2]; exact λe=>(nomatch e),(s.sub _ _ q2).2⟩
 refine ⟨.f λz fr h s=>?_,λz fr h s=>?_,λz fr h s=>?_⟩
 . rw [znp _ ho];exact ⟨rfl,rfl,λb hb=>(key z fr h s b hb).1,λq=>by rw [ho] at q; cases q⟩
 . rw [znp _ ho];exact ⟨λb hb=>(key z fr h s b hb).2,λb hb=>(nomatch hb)⟩
 . rcases zvG (hmx.val s.fr) with ⟨q,rfl⟩ | ⟨c,l,q,q2,q3⟩
   . obtain ⟨v,e1,e2⟩:=zl9 (h:=h) (m:=fr.op m) hm hz (hx.val s.fr) (l:=[]) (es:=([]:List (A×B))) ⟨rfl,λi p q hp=>by simp at hp⟩ (.inl ⟨q,rfl⟩) ok;exact ⟨v,by rw [ho]; simp only [aop,e1,zS,Option.map],e2⟩
   . obtain ⟨v,e1,e2⟩:=zl9 (h:=h) (m:=fr.op m) hm hz (hx.val s.fr) q3 (.inr ⟨c,q,(s.sub _ _ q2).1⟩) ok;exact ⟨v,by rw [ho]; simp only [aop,e1,zS,Option.map],e2⟩
theorem zwH {B:Type} {K:Rep A} {R:Rep B} {mt et:TypeId} {m x:Operand} {es:List (A×B)} {i:A} {w0:B} (hm:Mp T mt K et) (hz:Zr T et R w0) (hw:Want ops Γ true o.guard) (ho:o.op=.lookup mt m x false) (hd:o.dst=some t)
 (hmx:Opd Γ m (.val (zqS K R) es)) (hx:Opd Γ x (.val K i)) (r:zr C T d ops rest ((t,.val R ((mget es i).getD w0))::Γ) L Q):zr C T d ops (o::rest) Γ L Q:=by
 obtain ⟨q1,q2,q3⟩:=lookq (C:=C) (d:=d) (ops:=ops) (rest:=rest) (L:=L) hm hz ho hmx hx;refine zeS q1 q2 hw hd (λz fr h s=>?_) r;obtain ⟨v,e1,e2⟩:=q3 z fr h s;exact ⟨v,by simpa using e1,by simp only [TE.ok]; exact e2⟩
theorem StZ.freezem {A B:Type} {K:Rep A} {R:Rep B} {es:List (A×B)} {b:Nat} (s:StZ C Γ L z fr h) {k:Nat} {L':Own} (hk:L[k]?=some (.map b,.mp K R es)) (hL:zdM L k=some L'):∃ z',z.le z'/\StZ C Γ L' z' fr h/\TV (zqS K R) z' (.map b) es:=by
 have ho:=s.own.ok _ (List.mem_of_getElem? hk);simp only [Obj.ok] at ho;obtain ⟨b',l,e,h2,h3,h5⟩:=ho;cases e;obtain ⟨o1,o2,o3⟩:=s.own.out _ (List.mem_of_getElem? hk) b (by simp [zeA,zhP]);have hle:z.le (z.add b (.mp l)):=zhW o1;have s':=s.drop hL;have hne:∀ p∈L',∀ c,c∈zeA p->c≠b:=by
  intro p hp c hc e;subst e;rw [zhV hL] at hp;obtain ⟨j,hj,hjp⟩:=List.getElem_of_mem hp;have hj':(L.eraseIdx k)[j]?=some p:=by rw [← hjp]; exact List.getElem?_eq_getElem _
  rw [List.getElem?_eraseIdx] at hj';split at hj'
  . have:=zdh s.own.nodup hj' hk hc (by simp [zeA,zhP]); omega
  . have:=zdh s.own.nodup hj' hk hc (by simp [zeA,zhP]); omega
 refine ⟨z.add b (.mp l),hle,{ zle:=s.zle.trans hle,sub:=?_,old:=?_,fr:=s.fr.mono hle,own:=⟨λp hp=>Obj.ok_mono hle (λ_ _=>rfl) (s'.own.ok p hp),λp hp c hc=>?_,s'.own.nodup⟩,chg:=s.chg }, ?_⟩
 . intro c y hc;by_cases e:c=b
   . subst e; rw [zgB] at hc; cases hc; exact ⟨h2,o2⟩
   . rw [add_ne e] at hc; exact s.sub c y hc
 . intro c hc hB;rw [add_ne]
   . exact s.old c hc hB
   . intro e; subst e;rcases o3 with q | q
     . omega
     . exact hB q
 . obtain ⟨q1,q2,q3⟩:=s'.own.out p hp c hc;exact ⟨by rw [add_ne (hne p hp c hc)]; exact q1,q2,q3⟩
 . exact zrT zgB (ziB.mono hle ⟨h3,h5⟩)
theorem zrV {b n:Nat} (hl:look Γ n=some (.raw (.map b))):∀ z fr h,StZ C Γ L z fr h->∃ z',z.le z'/\StZ C ((n,.val zqR (.map b))::Γ) L z' fr h:=λz fr h s=>by
 have h1:=s.fr _ _ hl;simp only [TE.ok] at h1;exact ⟨z,.refl _,{ s with fr:=zl7 s.fr (by simp only [TE.ok]; rw [h1]; exact ⟨⟨rfl,rfl,rfl⟩,rfl⟩) }⟩
theorem zug {v:ze}:∀ z c,(TE.val zqR v).ok z c->(TE.raw v).ok z c:=λz c h=>by
 simp only [TE.ok] at h ⊢;exact zvB h
def zfH {A:Type} (R:Rep A):Rep (Option A):=
 ⟨1,false,λz cs x=>(x=none/\cs=[.nilptr])\/∃ a,x=some a/\(z5 R).rel z cs a,λz cs x q=>by
  rcases q with ⟨_,rfl⟩ | ⟨a,_,q⟩
  . rfl
  . exact (z5 R).len z cs a q,
  λz z' cs x e q=>q.imp id λ⟨a,h1,h2⟩=>⟨a,h1,(z5 R).mono z z' cs a e h2⟩,λ_=>rfl,λz cs x q=>by
   rcases q with ⟨_,rfl⟩ | ⟨a,_,q⟩
   . rfl
   . exact (z5 R).ones z cs a q⟩
theorem zc7 {A:Type} {R:Rep A}:(TE.val (zfH R) none).ok z .nilptr:=by
 simp only [TE.ok];exact ⟨.inl ⟨rfl,rfl⟩,rfl⟩
theorem zma {A:Type} {R:Rep A} {a:A} {n:Nat} (hl:look Γ n=some (.val (z5 R) a)):∀ z fr h,StZ C Γ L z fr h->∃ z',z.le z'/\StZ C ((n,.val (zfH R) (some a))::Γ) L z' fr h:=λz fr h s=>by
 have h1:=s.fr _ _ hl;simp only [TE.ok] at h1;exact ⟨z,.refl _,{ s with fr:=zl7 s.fr (by simp only [TE.ok]; exact ⟨.inr ⟨a,rfl,h1.rel⟩,h1.agg⟩) }⟩
theorem zcW {A:Type} {R:Rep A} {x:Option A} {a:A} {n:Nat} (hx:x=some a) (hl:look Γ n=some (.val (zfH R) x)):∀ z fr h,StZ C Γ L z fr h->∃ z',z.le z'/\StZ C ((n,.val (z5 R) a)::Γ) L z' fr h:=λz fr h s=>by
 have h1:=s.fr _ _ hl;simp only [TE.ok] at h1;subst hx;exact ⟨z,.refl _,{ s with fr:=zl7 s.fr (by
  simp only [TE.ok];rcases h1.rel with ⟨q,_⟩ | ⟨b,q,h2⟩
  . cases q
  . cases q; exact ⟨h2,h1.agg⟩) }⟩
end
end Go.Ai.Sx
/- Plain functions that printed texts use. -/
namespace Go.Ai.Sx
abbrev w64 (n:Int):Int:=IntKind.i64.wrap n
theorem okn {z:Store}:zz z [] []:=by simp only [zz]
theorem okint {z:Store} {k:IntKind} {es:List TE} {vs:List ze} (h:zz z es vs):zz z (.val (zj k) 0::es) (.int k 0::vs):=by
 simp only [zz,TE.ok];exact ⟨_,_,rfl,zbQ (by cases k<;>decide) (by cases k<;>decide),h⟩
theorem okbool {z:Store} {es:List TE} {vs:List ze} (h:zz z es vs):zz z (.val zau false::es) (.bool false::vs):=by
 simp only [zz,TE.ok];exact ⟨_,_,rfl,zdK,h⟩
theorem oknil {A:Type} {R:Rep A} {z:Store} {es:List TE} {vs:List ze} (h:zz z es vs):zz z (.val (zb R) []::es) (.nilslice::vs):=by
 simp only [zz,TE.ok];exact ⟨_,_,rfl,zbP zhm,h⟩
theorem okraw {z:Store} {v:ze} {es:List TE} {vs:List ze} (h:zz z es vs):zz z (.raw v::es) (v::vs):=by
 simp only [zz,TE.ok];exact ⟨_,_,rfl,rfl,h⟩
end Go.Ai.Sx
/- An abstract interpreter for the model's code: from a run of it to what a law's row says. -/
namespace Go.Ai
open Go.RowKit
structure zqT (A:Type) where
 rel:Store->List ze->A->Prop
 mono:∀ z z' as x,z.le z'->rel z as x->rel z' as x
def zyW:zqT Unit:=⟨λ_ as _=>as=[],λ_ _ _ _ _ h=>h⟩
def zka {A B:Type} (R:Rep A) (S:zqT B):zqT (A×B):=
 ⟨λh as x=>∃ a rest,as=a::rest/\TV R h a x.1/\S.rel h rest x.2,λ_ _ _ _ e h=>let ⟨a,rest,h1,h2,h3⟩:=h; ⟨a,rest,h1,h2.mono e,S.mono _ _ _ _ e h3⟩⟩
def flat (P:Program) (t:TypeId):Bool:=match P.underlying t with | some (.int _) | some .bool | some (.slice _) | some (.struct _)=>true | _=>false
def zkb (P:Program) {A:Type} (ts:List TypeId) (S:zqT A):Prop:=
 ∀ (H:Type) (enc:TypeId×Value->H) (W:World) (base:Nat) (vs:List Value) (ds:List (DataW H)) (ps:List MemPlace),0<W.heap.size ->
  (∀ (j:Nat) t v,ts[j]?=some t->vs[j]?=some v->Value.okWide P W .any base t v)->DataW.TrodAll enc P W 0 (λ_=>true) true ts vs ds ps->∀ (ρ:Emb) (h:za),zeb W.heap.size ρ h W->zm8 ρ h ->
   ∃ ρ' h' as x,Lay W ρ h ρ' h'/\zcd ρ' as vs/\S.rel h'.st as x
section
variable {P:Program}
theorem ziC:zkb P [] zyW:=by
 intro H enc W base vs ds ps _ _ hd ρ h hr hn;obtain ⟨rfl,_⟩:=ChangeShapes.trodAll_nil hd;exact ⟨ρ,h,[],(),⟨.refl _,hr,hn,.refl _⟩,.nil _,rfl⟩
theorem zcN {A B:Type} {t:TypeId} {ts:List TypeId} {R:Rep A} {S:zqT B} (ho:Opens P t R) (hf:flat P t=true) (hs:zkb P ts S):zkb P (t::ts) (zka R S):=by
 intro H enc W base vs ds ps hpos hok hd ρ h hr hn;obtain ⟨v,vs',d,ds',p,q,rfl,rfl,rfl,h1,h2⟩:=ChangeShapes.trodAll_cons hd;obtain ⟨ρ1,h1',a,x,l1,r1,q1⟩:=zrv ho hpos (hok 0 t v rfl rfl) hf h1 hr hn;obtain ⟨ρ2,h2',as,y,l2,r2,q2⟩:=hs H enc W base vs' ds' q hpos (λj t' v' ht hv=>hok (j+1) t' v' (by simpa using ht) (by simpa using hv)) h2 ρ1 h1' l1.heap l1.none;exact ⟨ρ2,h2',a::as,(x,y),l1.trans l2,.cons (r1.mono l2.ext) r2,a,as,rfl,q1.mono l2.grow.st,q2⟩
theorem zh1 {H:Type} {enc:TypeId×Value->H} (hl:laidOutB P=true) {W W':World} (hb:Below W.heap.size W W'):∀ {ts:List TypeId} {vs:List Value} {ds:List (DataW H)} {ps:List MemPlace},(∀ t∈ts,P.readableRec t=true/\t<P.types.size) ->
    DataW.TrodAll enc P W 0 (λ_=>true) true ts vs ds ps->DataW.TrodAll enc P W' 0 (λb=>decide (b<W.heap.size)) true ts vs ds ps
  | [],[],[],_,_,h=>h
  | t::ts,v::vs,d::ds,ps,hts,⟨p,q,h1,h2,e⟩=>by
    refine ⟨p,q, ?_,zh1 hl hb (λt ht=>hts t (List.mem_cons_of_mem _ ht)) h2,e⟩;obtain ⟨hr,hrow⟩:=hts t (List.mem_cons_self ..);refine Below.trod hl hr hrow h1 hb ?_;have h3:DataW.TrodAll enc P W 0 (λ_=>true) true [t] [v] [d] p:=⟨p,[],h1,rfl,by simp⟩;exact DataW.TrodAll.lt h3
  | [],_::_,_,_,_,h=>h.elim
  | [],[],_::_,_,_,h=>h.elim
  | _::_,[],_,_,_,h=>h.elim
  | _::_,_::_,[],_,_,h=>h.elim
end
theorem zgG {T:Tab} {C:Checked} (ok:T.Ok C.prog) {f:FuncId} {fn:Func} {s:ChangeSpec} {A:Type} {S:zqT A} {tb:TypeId}
 (hl:laidOutB C.prog=true) (hvars:s.vars=[]) (hrt:fn.resultTypes=#[tb]) (hb:C.prog.underlying tb=some .bool) (hts:∀ t∈fn.params.toList,C.prog.readableRec t=true/\t<C.prog.types.size)
 (hfn:∀ (H:Type) (ds:List (DataW H)),ds.length=fn.params.size->s.fn H ds={ results:=[.lit (.bool true)],args:=ds })
 (ho:zkb C.prog fn.params.toList S)
 (law:∀ (h:za) (as:List ze) (x:A),S.rel h.st as x->h.wm<=h.next->∃ n h',zdH T (aexec T n) f as h=some (.ret (.bool true),h'))
 {H:Type} {enc:TypeId×Value->H} {W:World} {base:Nat} {args:Array Value} {ds gs:List (DataW H)} {before:List MemPlace} (hpos:0<W.heap.size)
 (hval:∀ (j:Nat) t v,fn.params[j]?=some t->args[j]?=some v->Value.okWide C.prog W .any base t v)
 (hW:DataW.Whole enc C.prog fn.params.toList s.vars false W args.toList ds gs before) :
 Calls C.prog f args W λe W'=>∃ v,e=.returned v/\s.post enc C.prog fn false true false false W args v W':=by
 have hW0:=hW;obtain ⟨p,q,hA,hV,rfl,_,_⟩:=hW;have hr0:zeb W.heap.size (λ_=>none) ⟨.leaf,0,0⟩ W:=⟨⟨λ_ _ h=>(nomatch h),λ_ _ h=>(nomatch h),λ_ _ _ _ h=>(nomatch h),Nat.le_refl _⟩,λ_ _ h=>(nomatch h)⟩;obtain ⟨ρ,h,as,x,l,r,hx⟩:=ho H enc W base args.toList ds p hpos (λj t v ht hv=>hval j t v (by simpa using ht) (by simpa using hv)) hA _ _ hr0 (λ_ _ h=>(nomatch h));obtain ⟨n,h',hrun⟩:=law h as x hx (l.grow.wm (Nat.le_refl 0));refine (zlP ok hrun r l.heap).mono λe W' he=>?_;obtain ⟨ρ',hr',ht,hend⟩:=he;rcases hend with ⟨v,v',hv,rfl,hrel⟩ | ⟨v,v',hv,_⟩
 case inr=>cases hv
 cases hv;cases hrel;refine ⟨_,rfl, ?_⟩;have hbelow:Below W.heap.size W W':=⟨ht.os,ht.tape,ht.output,ht.size,λk hk=>ht.frame k hk (λb l' hb ho'=>absurd ho' (l.none b l' hb))⟩;have hgs:gs=[]/\q=[]:=by
  rw [hvars] at hV;cases gs with
  | nil=>exact ⟨rfl,hV⟩
  | cons _ _=>exact hV.elim
 obtain ⟨rfl,rfl⟩:=hgs;have hlen:=trodAll_length hA;have hres:s.fn H (ds++[])={ results:=[.lit (.bool true)],args:=ds }:=by rw [List.append_nil]; exact hfn H ds (by rw [hlen.2]; simp)
 refine ⟨ds,[],p++[],[],p,[],hW0, ?_, ?_, ?_,hbelow.frame _,λq=>by cases q⟩
 . rw [hres,hrt];exact ⟨[],[],RowKit.shut_bool hb true,rfl,rfl⟩
 . rw [hres]; exact zh1 hl hbelow hts hA
 . rw [hres,hvars]; exact rfl
end Go.Ai
/- From a walk through a law to what its row says. -/
namespace Go.Ai.Sx
def AOk {A:Type} (S:zqT A) (ts:A->List TE):Prop:=∀ z vs x,S.rel z vs x->zz z (ts x) vs
theorem zoB:AOk zyW (λ_=>[]):=λz vs x h=>by
 simp only [zz]; exact h
theorem ze0 {A B:Type} {R:Rep A} {S:zqT B} {ts:B->List TE} (h:AOk S ts):AOk (zka R S) (λx=>.val R x.1::ts x.2):=λz vs x hr=>by
 obtain ⟨a,rest,rfl,h1,h2⟩:=hr;simp only [zz,TE.ok];exact ⟨a,rest,rfl,h1,h _ _ _ h2⟩
theorem zoC {T:Tab} {g:FuncId} {A:Type} {S:zqT A} {ts:A->List TE} (ha:AOk S ts) (hf:∀ z vs x,S.rel z vs x->Fun T g (ts x) [.val zau true]):∀ (h:za) (as:List ze) (x:A),S.rel h.st as x->h.wm<=h.next->∃ n h',zdH T (aexec T n) g as h=some (.ret (.bool true),h'):=by
 intro h as x hr hwm;obtain ⟨n,r,h',e,us,z',rfl,hl,_,_,_,_,hok,_⟩:=hf _ _ x hr h.st h as (zpt h) hwm (ha _ _ _ hr)
 match us,hl with
 | [u],_=>
  simp only [tes,zz,TE.ok] at hok;obtain ⟨v,vs,q,h1,_⟩:=hok;cases q;have:=zos h1;subst this;exact ⟨n,h',e⟩
end Go.Ai.Sx
/- An abstract interpreter for the model's code: that a program's tables agree with it. -/
namespace Go.Ai
def Tr.toList {α:Type}:Tr α->List (Nat×α)
 | .leaf=>[]
 | .node v l r=>(match v with | some x=>[(0,x)] | none=>[])++(l.toList.map λp=>(2*p.1+1,p.2))++(r.toList.map λp=>(2*p.1+2,p.2))
theorem Tr.mem_toList {α:Type}:∀ (t:Tr α) (n:Nat) (x:α),t.get n=some x->(n,x)∈t.toList
 | .leaf,n,x,h=>by simp [Tr.get] at h
 | .node v l r,0,x,h=>by
  have h:v=some x:=h;subst h;simp [Tr.toList]
 | .node v l r,m+1,x,h=>by
  rw [Tr.get_succ] at h;simp only [Tr.toList,List.mem_append,List.mem_map];split at h
  . rename_i hm;exact .inl (.inr ⟨_,Tr.mem_toList l _ _ h,by simp; omega⟩)
  . exact .inr ⟨_,Tr.mem_toList r _ _ h,by simp; omega⟩
def zvH {α:Type} (Q:Nat->α->Prop):List (Nat×α)->Prop
 | []=>True
 | p::l=>Q p.1 p.2/\zvH Q l
theorem zvH.get {α:Type} {Q:Nat->α->Prop}:∀ {l:List (Nat×α)},zvH Q l->∀ n x,(n,x)∈l->Q n x
 | _::_,h,n,x,hm=>by
  rcases List.mem_cons.1 hm with q | q
  . cases q; exact h.1
  . exact zvH.get h.2 n x q
def znq (P:Program) (t:Nat) (i:zqY):Prop:=
 P.underlying t=some i.desc/\∃ j,P.info? t=some j/\j.size=i.size/\j.bytes=i.bytes /\
  (∀ z,i.zero=some z->∃ zv,j.zero=some zv/\zhe zv=some z)/\(i.stood=false->P.stoodInHeld t=false)/\(i.eqg=false->P.eqGuardType P.depth t=false)
theorem znr {P:Program} {t:Nat} {j ju:TypeInfo} (h1:P.info? t=some j) (h2:P.underlying t=some ju.desc) :
 znq P t { desc:=ju.desc,size:=j.size,bytes:=j.bytes,zero:=j.zero.bind zhe,stood:=P.stoodInHeld t,eqg:=P.eqGuardType P.depth t }:=by
 refine ⟨h2,j,h1,rfl,rfl,λz hz=>?_,id,id⟩;exact Option.bind_eq_some_iff.1 hz
def zpB (P:Program) (f:Nat) (F:Func):Prop:=
 P.funcs[f]? = some F ∧ (F.name == "runtime.NumGoroutine") = false ∧ (∀ c, F.body = some c → zce F.ntmps c = true)
def zrW (F:Func):Bool:=match F.body with | some c=>zce F.ntmps c | none=>true
theorem zrX {P : Program} {f : Nat} {F : Func} (h1 : P.funcs[f]? = some F) (h2 : (F.name == "runtime.NumGoroutine") = false) (h3 : zrW F = true) : zpB P f F := by
 refine ⟨h1,h2,fun c hc=>?_⟩;unfold zrW at h3;rw [hc] at h3;exact h3
theorem zuh {P:Program} {T:Tab} (h1:zvH (znq P) T.types.toList) (h2:zvH (zpB P) T.funcs.toList) (h3:P.follows .mixedOrders=true) (h4:T.consts=.leaf) (h5:T.defs=.leaf:=by rfl):T.Ok P:=
 ⟨λt i h=>h1.get t i (Tr.mem_toList _ _ _ h),λf F h=>h2.get f F (Tr.mem_toList _ _ _ h),h3,λg v h=>(by rw [h4] at h; cases h),λf D h=>by rw [h5] at h; cases h⟩
end Go.Ai