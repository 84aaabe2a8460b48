/- Structs whose fields are filled in another order than they stand in. -/
import Derived.Test.YtppebpagcocogaaGreatU7
import Derived.KernelRfl
set_option linter.unusedSimpArgs false
set_option linter.unusedVariables false
set_option linter.unusedSectionVars false
namespace Go.Ai.Sx
open Option renaming bind->Zb,bind_some->Zs
section
variable {C:Ctx} {T:Tab} {d:Option (List Nat)} {ops rest:List Oper} {Γ:Env} {L:Own} {Q:zf->za->Prop} {o:Oper} {t:Nat} {z:Store} {fr:zf} {h:za}
end
end Go.Ai.Sx
/- Steps that find their own evidence: the printed walks name only what cannot be found. -/
namespace Go.Ai.Sx
open Option renaming bind->Zb,bind_some->Zs
class iU (T:Tab) (t:TypeId) {A:outParam Type} (R:outParam (Rep A)):Prop where u:Und T t R
class iS (T:Tab) (st:TypeId) {A:outParam Type} (R:outParam (Rep A)) (et:outParam TypeId):Prop where s:Sl T st et R
class iF (T:Tab) (s i:Nat) {A B:outParam Type} (R:outParam (Rep A)) (S:outParam (Rep B)) (ft off:outParam Nat) (g:outParam (A->B)) (w:outParam (A->B->A)):Prop where
 f:Fld T s i ft off S.sz
 k:FOk R off S g w
 p:0<S.sz
class iY (T:Tab) (et:TypeId) {A:outParam Type} (R:outParam (Rep A)) (bytes:outParam Nat):Prop where y:Ty T et R bytes
class iZ (T:Tab) (et:TypeId) {A:outParam Type} (R:outParam (Rep A)) (x:outParam A):Prop where z:Zr T et R x
class iB (T:Tab) (t:TypeId) {A:outParam Type} (R:outParam (Rep A)) (zc:outParam (List ze)) (places:outParam (List (Nat×Nat))):Prop where
 b:Stt T t zc places
 a:R.agg=true
class iK (T:Tab) (t:TypeId) (k:outParam TypeDesc):Prop where k:T.und t=some k
class iA (T:Tab) (t:TypeId) {A:outParam Type} (R:outParam (Rep A)) (et n:outParam Nat):Prop where a:Ar1 T t et n R
class iE (T:Tab) (t:TypeId) {A:outParam Type} (R:outParam (Rep A)) (q:outParam (A->A->Bool)):Prop where
 e:SEq T t R q
 a:R.agg=true
class FI {α:Type} (T:Tab) (g:FuncId) (m:Option α) (as:outParam (List TE)) (rs:outParam (α->List RE)):Prop where ok:∀ o,m=some o->Fun T g as (rs o)
theorem fi {α:Type} {T:Tab} {g:FuncId} {m:Option α} {as:List TE} {rs:α->List RE} [h:FI T g m as rs] {o:α} (e:m=some o):Fun T g as (rs o):=h.ok o e
universe u
section
variable {A:Type u} {l:List A} {a b c e f g h i j:A}
theorem k0:(a::l)[0]?=some a:=rfl
theorem k1:(a::b::l)[1]?=some b:=rfl
theorem k2:(a::b::c::l)[2]?=some c:=rfl
theorem k3:(a::b::c::e::l)[3]?=some e:=rfl
theorem k4:(a::b::c::e::f::l)[4]?=some f:=rfl
theorem k5:(a::b::c::e::f::g::l)[5]?=some g:=rfl
theorem k6:(a::b::c::e::f::g::h::l)[6]?=some h:=rfl
theorem k7:(a::b::c::e::f::g::h::i::l)[7]?=some i:=rfl
theorem k8:(a::b::c::e::f::g::h::i::j::l)[8]?=some j:=rfl
end
section
variable {C:Ctx} {T:Tab} {d:Option (List Nat)} {ops rest:List Oper} {Γ:Env} {L:Own} {Q:zf->za->Prop} {P:zab->zf->za->Prop} {e e':TE} {t i j:Nat} {x y z:Operand} {ty u u' et st:TypeId} {p:String} {af:Array Edge} {gd:Option (Nat×Bool)} {A B:Type} {R:Rep A} {S:Rep B} {k k':IntKind} {m n i':Int} {v:ze} {q:Bool} {a:A} {xs ys:List A} {c:Call}
abbrev vI (n:Int):TE:=.val (zj .i64) n
abbrev vB (b:Bool):TE:=.val zau b
theorem c1 {b:B} {fs:List TE} (h1:R.agg=false) (h2:Cells S b fs):Cells (zH R S) (a,b) (.val R a::fs):=zq (zt h1) h2 rfl
theorem c3 {A B:Type} {R:Rep A} {S:Rep B} {x y:A} {b:B} {fs:List TE} (h:R.agg=false) (h2:Cells S b fs):Cells (zH (zjT 2 R) S) ([x,y],b) (.val R x::.val R y::fs):=zq (ziF h) h2 rfl
theorem c2 {b:B} {es fs:List TE} (h1:Cells R a es) (h2:Cells S b fs):Cells (zH R S) (a,b) (es++fs):=zq h1 h2 rfl
theorem gl1:(true==true)=true:=rfl
theorem gl0:(false==false)=true:=rfl
theorem gm1:(true==false)=false:=rfl
theorem gm0:(false==true)=false:=rfl
theorem EQ {p:Prop} (h:p:=by first | with_reducible assumption | assumption):p:=h
theorem EW {p:Prop} (h:p:=by first | exact .n rfl | (apply Want.g; rfl; rfl; first | (apply gt1; with_reducible assumption) | (apply gf0; with_reducible assumption) | with_reducible exact gl1 | with_reducible exact gl0)):p:=h
theorem EN {p:Prop} (h:p:=by first | exact .u rfl rfl rfl | (apply Want.g; rfl; rfl; first | (apply gf1; with_reducible assumption) | (apply gt0; with_reducible assumption) | with_reducible exact gm1 | with_reducible exact gm0)):p:=h
theorem EO {p:Prop} (h:p:=by first | exact .t rfl | exact .i (by decide) (by decide) | exact .b | exact .f | exact .nil):p:=h
theorem EM {p:Prop} (h:p:=by first | exact .t rfl | exact .i (by decide) (by decide) | exact .b | exact .f):p:=h
theorem EL {p:Prop} (h:p:=by first | exact k0 | exact k1 | exact k2 | exact k3 | exact k4 | exact k5 | exact k6 | exact k7 | exact k8):p:=h
theorem EC {p:Prop} (h:p:=by
 repeat first | exact za7 | exact zt rfl | (apply c1; rfl) | (apply c3; rfl) | apply c2
 all_goals fail):p:=h
theorem EZ {p:Prop} (h:p:=by
 repeat first | exact zint | exact zbool | exact znil | exact zunit | exact zns | exact znilM | exact ⟨rfl,by decide,by decide⟩ | apply zpair | rfl
 all_goals fail):p:=h
theorem EB {p:Prop} (h:p:=by
 repeat first | exact .n rfl | (apply Bld.p; exact EO; rfl) | (apply Bld.z; intro _; exact EZ)
 all_goals fail):p:=h
theorem ES {p:Prop} (h:p:=by first | exact .n | exact .s EO):p:=h
theorem ER {p:Prop} (h:p:=by intro _ h; cases h<;>rfl):p:=h
theorem EA {p:Prop} (h:p:=by
 repeat first | exact .n | (apply Opds.c; exact EO) | (apply Elts.c; exact EO)
 all_goals fail):p:=h
theorem EH {p:Prop} (h:p:=by first | with_reducible assumption | with_reducible rfl):p:=h
theorem wmv (h:Opd Γ x e) (w:Want ops Γ true gd) (r:zr C T d ops rest ((t,e)::Γ) L Q):zr C T d ops (⟨some t,.move x,ty,p,af,gd⟩::rest) Γ L Q:=zng w rfl rfl h r
theorem wsg (h:Opd Γ x e) (w:Want ops Γ true gd) (r:zr C T d ops rest ((t,e)::Γ) L Q):zr C T d ops (⟨some t,.assign x,ty,p,af,gd⟩::rest) Γ L Q:=zdY w rfl rfl h r
theorem wsk {o:Op} (w:Want ops Γ false (some (j,q))) (r:zr C T d ops rest ((t,.raw unit)::Γ) L Q):zr C T d ops (⟨some t,o,ty,p,af,some (j,q)⟩::rest) Γ L Q:=zyu w rfl r
theorem wld [hu:iU T et R] (h:Opd Γ x (.val (z5 R) a)) (w:Want ops Γ true gd) (r:zr C T d ops rest ((t,.val R a)::Γ) L Q):zr C T d ops (⟨some t,.load et x,ty,p,af,gd⟩::rest) Γ L Q:=zyA hu.u w rfl rfl h r
theorem wfa {s ft off:Nat} {g:A->B} {f:A->B->A} [hf:iF T s i R S ft off g f] (h:Opd Γ x (.val (z5 R) a)) (w:Want ops Γ true gd) (r:zr C T d ops rest ((t,.val (z5 S) (g a))::Γ) L Q):zr C T d ops (⟨some t,.fieldAddr s x i,ty,p,af,gd⟩::rest) Γ L Q:=zBf hf.f hf.k hf.p w rfl rfl h r
theorem wfe {s ft off j' o0:Nat} {g:A->B} {f:A->B->A} [hf:iF T s i R S ft off g f] (h:Opd Γ x (.elt v j' o0)) (w:Want ops Γ true gd) (r:zr C T d ops rest ((t,.elt v j' (o0+off))::Γ) L Q):zr C T d ops (⟨some t,.fieldAddr s x i,ty,p,af,gd⟩::rest) Γ L Q:=zwp hf.f hf.p w rfl rfl h r
theorem wfr {s ft off b o0:Nat} {g:A->B} {f:A->B->A} [hf:iF T s i R S ft off g f] (h:Opd Γ x (.raw (.ptr b o0))) (w:Want ops Γ true gd) (r:zr C T d ops rest ((t,.raw (.ptr b (o0+off)))::Γ) L Q):zr C T d ops (⟨some t,.fieldAddr s x i,ty,p,af,gd⟩::rest) Γ L Q:=zwq hf.f hf.p w rfl rfl h r
theorem wfd {s ft off:Nat} {g:A->B} {f:A->B->A} [hf:iF T s i R S ft off g f] [hu:iU T ft S] (h:Opd Γ x (.val R a)) (w:Want ops Γ true gd) (hR:R.agg=true) (r:zr C T d ops rest ((t,.val S (g a))::Γ) L Q):zr C T d ops (⟨some t,.field s x i,ty,p,af,gd⟩::rest) Γ L Q:=zws hf.f hu.u hR hf.k w rfl rfl h r
theorem war {op:BinOp} (hx:Opd Γ x (.val (zj k) m)) (hy:Opd Γ y (.val (zj k) n)) (ha:Ar k m n op i') (w:Want ops Γ true gd) (r:zr C T d ops rest ((t,.val (zj k) i')::Γ) L Q):zr C T d ops (⟨some t,.binOp op u x y u',ty,p,af,gd⟩::rest) Γ L Q:=zA0 w rfl rfl hx hy ha r
theorem wdv (hx:Opd Γ x (.val (zj k) m)) (hy:Opd Γ y (.val (zj k) n)) (ha:zc2 k m n=some i') (w:Want ops Γ true gd) (r:zr C T d ops rest ((t,.val (zj k) i')::Γ) L Q):zr C T d ops (⟨some t,.binOp .quo u x y u',ty,p,af,gd⟩::rest) Γ L Q:=zA0 w rfl rfl hx hy (zt6 ha) r
theorem wrm (hx:Opd Γ x (.val (zj k) m)) (hy:Opd Γ y (.val (zj k) n)) (ha:zl5 m n=some i') (w:Want ops Γ true gd) (r:zr C T d ops rest ((t,.val (zj k) i')::Γ) L Q):zr C T d ops (⟨some t,.binOp .rem u x y u',ty,p,af,gd⟩::rest) Γ L Q:=zyN ha w rfl rfl hx hy r
theorem wsr (hx:Opd Γ x (.val (zj k) m)) (hy:Opd Γ y (.val (zj k') n)) (ha:zoy k m n=some i') (w:Want ops Γ true gd) (r:zr C T d ops rest ((t,.val (zj k) i')::Γ) L Q):zr C T d ops (⟨some t,.binOp .shr u x y u',ty,p,af,gd⟩::rest) Γ L Q:=zyO ha w rfl rfl hx hy r
theorem wcm {op:BinOp} (hx:Opd Γ x (.val (zj k) m)) (hy:Opd Γ y (.val (zj k) n)) (ha:Cmp m n op q) (w:Want ops Γ true gd) (r:zr C T d ops rest ((t,.val zau q)::Γ) L Q):zr C T d ops (⟨some t,.binOp op u x y u',ty,p,af,gd⟩::rest) Γ L Q:=zzK w rfl rfl hx hy ha r
theorem wse {a':A} {f:A->A->Bool} [hs:iE T u R f] (hx:Opd Γ x (.val R a)) (hy:Opd Γ y (.val R a')) (w:Want ops Γ true gd) (r:zr C T d ops rest ((t,.val zau (f a a'))::Γ) L Q):zr C T d ops (⟨some t,.binOp .eql u x y u',ty,p,af,gd⟩::rest) Γ L Q:=zz1 hs.e hs.a w rfl rfl hx hy r
theorem wno (hx:Opd Γ x (.val zau q)) (w:Want ops Γ true gd) (r:zr C T d ops rest ((t,.val zau (!q))::Γ) L Q):zr C T d ops (⟨some t,.unOp .not u x,ty,p,af,gd⟩::rest) Γ L Q:=zyw w rfl rfl hx r
theorem wng (hx:Opd Γ x (.val (zj k) m)) (w:Want ops Γ true gd) (r:zr C T d ops rest ((t,.val (zj k) (k.wrap (0-m)))::Γ) L Q):zr C T d ops (⟨some t,.unOp .neg u x,ty,p,af,gd⟩::rest) Γ L Q:=zzN w rfl rfl hx r
theorem wcv {ds:TypeDesc} [h1:iK T u ds] [h2:iK T u' (.int k')] (hx:Opd Γ x (.val (zj k) m)) (w:Want ops Γ true gd) (r:zr C T d ops rest ((t,.val (zj k') (k'.wrap m))::Γ) L Q):zr C T d ops (⟨some t,.convert u u' x,ty,p,af,gd⟩::rest) Γ L Q:=zyx (by rw [h1.k]; rfl) h2.k w rfl rfl hx r
theorem wp1 (hc:Opd Γ z (.val zau q)) (hb:q=true) (hx:Opd Γ x e) (w:Want ops Γ true gd) (r:zr C T d ops rest ((t,e)::Γ) L Q):zr C T d ops (⟨some t,.pick z x y,ty,p,af,gd⟩::rest) Γ L Q:=zzW hb w rfl rfl hc hx r
theorem wp0 (hc:Opd Γ z (.val zau q)) (hb:q=false) (hy:Opd Γ y e) (w:Want ops Γ true gd) (r:zr C T d ops rest ((t,e)::Γ) L Q):zr C T d ops (⟨some t,.pick z x y,ty,p,af,gd⟩::rest) Γ L Q:=zzX hb w rfl rfl hc hy r
theorem wln [hs:iS T st R et] (hx:Opd Γ x (.val (zb R) xs)) (w:Want ops Γ true gd) (r:zr C T d ops rest ((t,.val (zj .i64) (zm xs))::Γ) L Q):zr C T d ops (⟨some t,.call ⟨.builtin .len,#[x],#[st]⟩,ty,p,af,gd⟩::rest) Γ L Q:=zzO hs.s w rfl rfl rfl rfl rfl hx r
theorem wlo {κ:Nat} [hs:iS T st R et] (hx:Opd Γ x (.raw v)) (hk:L[κ]?=some (v,.row R xs)) (w:Want ops Γ true gd) (r:zr C T d ops rest ((t,.val (zj .i64) (zm xs))::Γ) L Q):zr C T d ops (⟨some t,.call ⟨.builtin .len,#[x],#[st]⟩,ty,p,af,gd⟩::rest) Γ L Q:=zyy κ hs.s w rfl rfl rfl rfl rfl hx hk r
theorem wmx {ats:Array TypeId} (hx:Opd Γ x (.val (zj k) m)) (hy:Opd Γ y (.val (zj k) n)) (w:Want ops Γ true gd) (r:zr C T d ops rest ((t,.val (zj k) (max m n))::Γ) L Q):zr C T d ops (⟨some t,.call ⟨.builtin .max,#[x,y],ats⟩,ty,p,af,gd⟩::rest) Γ L Q:=zzP w rfl rfl rfl rfl hx hy r
theorem wmn {ats:Array TypeId} (hx:Opd Γ x (.val (zj k) m)) (hy:Opd Γ y (.val (zj k) n)) (w:Want ops Γ true gd) (r:zr C T d ops rest ((t,.val (zj k) (min m n))::Γ) L Q):zr C T d ops (⟨some t,.call ⟨.builtin .min,#[x,y],ats⟩,ty,p,af,gd⟩::rest) Γ L Q:=zzQ w rfl rfl rfl rfl hx hy r
theorem wix [hs:iS T st R et] (hx:Opd Γ x (.val (zb R) xs)) (hy:Opd Γ y (.val (zj k) m)) (hi:idx xs m=some a) (w:Want ops Γ true gd) (r:zr C T d ops rest ((t,.val (z5 R) a)::Γ) L Q):zr C T d ops (⟨some t,.indexAddr st x y,ty,p,af,gd⟩::rest) Γ L Q:=zzR hs.s hi w rfl rfl hx hy r
theorem wio {κ:Nat} [hs:iS T st R et] (hx:Opd Γ x (.raw v)) (hk:L[κ]?=some (v,.row R xs)) (hy:Opd Γ y (.val (zj k) m)) (hi:idx xs m=some a) (w:Want ops Γ true gd) (r:zr C T d ops rest ((t,.elt v m.toNat 0)::Γ) L Q):zr C T d ops (⟨some t,.indexAddr st x y,ty,p,af,gd⟩::rest) Γ L Q:=zyz κ hs.s hi w rfl rfl hx hk hy r
theorem wia {κ n' b:Nat} [hs:iA T st R et n'] (hx:Opd Γ x (.raw (.ptr b 0))) (hk:L[κ]?=some (.slice b 0 n' R.sz (some n'),.row R xs)) (hy:Opd Γ y (.val (zj k) m)) (hi:idx xs m=some a) (w:Want ops Γ true gd) (r:zr C T d ops rest ((t,.elt (.slice b 0 n' R.sz (some n')) m.toNat 0)::Γ) L Q):zr C T d ops (⟨some t,.indexAddr st x y,ty,p,af,gd⟩::rest) Γ L Q:=zyQ κ hs.a hk hi w rfl rfl hx hy r
theorem win {n':Nat} [hs:iA T st R et n'] (hx:Opd Γ x (.val (zjT n' R) xs)) (hy:Opd Γ y (.val (zj k) m)) (hi:idx xs m=some a) (w:Want ops Γ true gd) (r:zr C T d ops rest ((t,.val R a)::Γ) L Q):zr C T d ops (⟨some t,.index st x y,ty,p,af,gd⟩::rest) Γ L Q:=zwB hs.a hi w rfl rfl hx hy r
theorem wle {κ i0 off:Nat} {m0:Int} {g:A->B} {f:A->B->A} [hu:iU T et S] (hx:Opd Γ x (.elt v i0 off)) (hk:L[κ]?=some (v,.row R xs)) (hf:FOk R off S g f) (e0:m0.toNat=i0) (hi:idx xs m0=some a) (w:Want ops Γ true gd) (hl:Listed d ops rest) (r:zr C T d ops rest ((t,.val S (g a))::Γ) L Q):zr C T d ops (⟨some t,.load et x,ty,p,af,gd⟩::rest) Γ L Q:=zot κ hl hu.u hf (e0▸(zfm hi).2.2.2) w rfl rfl hx hk r
theorem wlb {κ b b':Nat} {es:List TE} [hu:iU T et R] (hx:Opd Γ x (.raw (.ptr b b'))) (hk:L[κ]?=some (.ptr b 0,.box es)) (he:es[b']?=some e) (hg:R.agg=false) (w:Want ops Γ true gd) (hl:Listed d ops rest) (r:zr C T d ops rest ((t,e)::Γ) L Q):zr C T d ops (⟨some t,.load et x,ty,p,af,gd⟩::rest) Γ L Q:=zwu κ hl (hg▸hu.u.agg) he w rfl rfl hx hk r
theorem wnk (hx:Opd Γ x (.val (z5 R) a)) (w:Want ops Γ true gd) (r:zr C T d ops rest ((t,.val (z5 R) a)::Γ) L Q):zr C T d ops (⟨some t,.nilCheck x,ty,p,af,gd⟩::rest) Γ L Q:=zwr w rfl rfl hx r
theorem wnr {b b':Nat} (hx:Opd Γ x (.raw (.ptr b b'))) (w:Want ops Γ true gd) (r:zr C T d ops rest ((t,.raw (.ptr b b'))::Γ) L Q):zr C T d ops (⟨some t,.nilCheck x,ty,p,af,gd⟩::rest) Γ L Q:=ztY w rfl rfl hx r
theorem wex {es:List TE} (hx:Opd Γ x (.tup es)) (he:es[i]?=some e) (w:Want ops Γ true gd) (r:zr C T d ops rest ((t,e)::Γ) L Q):zr C T d ops (⟨some t,.extract x i,ty,p,af,gd⟩::rest) Γ L Q:=zwt he w rfl rfl hx r
theorem wbx (hx:Opd Γ x (.val R a)) (w:Want ops Γ true gd) (r:zr C T d ops rest ((t,.val (z5 R) a)::Γ) L Q):zr C T d ops (⟨some t,.box et x,ty,p,af,gd⟩::rest) Γ L Q:=zzU w rfl rfl hx r
theorem wbs {bytes N:Nat} {parts:Array (Nat×Operand)} [hs:iS T st R et] [hy:iY T et R bytes] (he:Elts Γ R 0 parts.toList xs) (hn:xs.length=N) (hb:N*R.sz<=2 ^ 24) (w:Want ops Γ true gd) (r:zr C T d ops rest ((t,.val (zb R) xs)::Γ) L Q):zr C T d ops (⟨some t,.buildSlice st N parts,ty,p,af,gd⟩::rest) Γ L Q:=zBg hs.s hy.y w rfl rfl he hn hb r
theorem wmk {bytes:Nat} {x0:A} [hs:iS T st R et] [hy:iY T et R bytes] [hz:iZ T et R x0] (hl:Opd Γ x (.val (zj .i64) m)) (hc:Opd Γ y (.val (zj .i64) m)) (hm:mkO bytes m x0=some xs) (w:Want ops Γ true gd) (r:∀ v,zr C T d ops rest ((t,.raw v)::Γ) ((v,.row R xs)::L) Q):zr C T d ops (⟨some t,.makeSlice st x y,ty,p,af,gd⟩::rest) Γ L Q:=zBh hs.s hy.y hz.z hm w rfl rfl hl hc r
theorem wap {κ bytes:Nat} {L':Own} {zs:List A} [hs:iS T st R et] [hy:iY T et R bytes] (hx:Opd Γ x (.raw v)) (hk:L[κ]?=some (v,.row R xs)) (hy':Opd Γ y (.val (zb R) ys)) (hap:zdp bytes xs ys=some zs) (hL:zdM L κ=some L') (w:Want ops Γ true gd) (r:∀ v',zr C T d ops rest ((t,.raw v')::Γ) ((v',.row R zs)::L') Q) (hra:zgc d Γ L κ):zr C T d ops (⟨some t,.call ⟨.builtin .append,#[x,y],#[st,st]⟩,ty,p,af,gd⟩::rest) Γ L Q:=zl4 κ hs.s hy.y hap w rfl rfl rfl rfl rfl hx hk hy' hL r hra
theorem wso {κ i0 off:Nat} {m0:Int} {L':Own} {b:B} {g:A->B} {f:A->B->A} [hu:iU T et S] (hx:Opd Γ x (.elt v i0 off)) (hk:L[κ]?=some (v,.row R xs)) (hf:FOk R off S g f) (hy:Opd Γ y (.val S b)) (e0:m0.toNat=i0) (hi:idx xs m0=some a) (hL:zfn L κ (v,.row R (xs.set i0 (f a b)))=some L') (w:Want ops Γ true gd) (r:zr C T d ops rest Γ L' Q):zr C T d ops (⟨none,.store et x y,ty,p,af,gd⟩::rest) Γ L Q:=ztZ κ hu.u hf (e0▸(zfm hi).2.2.2) w rfl rfl hx hy hk hL r
theorem wsb {κ b b':Nat} {es:List TE} {L':Own} [hu:iU T et R] (hx:Opd Γ x (.raw (.ptr b b'))) (hk:L[κ]?=some (.ptr b 0,.box es)) (hy:Opd Γ y (.val R a)) (hg:R.agg=false) (h1:R.sz=1) (hq:b'<es.length) (hL:zfn L κ (.ptr b 0,.box (es.set b' (.val R a)))=some L') (w:Want ops Γ true gd) (r:zr C T d ops rest Γ L' Q):zr C T d ops (⟨none,.store et x y,ty,p,af,gd⟩::rest) Γ L Q:=zgd κ (h1▸hu.u.sz) hk hq w rfl rfl hx hy hg hL r
theorem wss {κ b:Nat} {es es':List TE} {L':Own} [hu:iU T et R] (hx:Opd Γ x (.raw (.ptr b 0))) (hk:L[κ]?=some (.ptr b 0,.box es)) (hy:Opd Γ y (.val R a)) (hc:Cells R a es') (hl:es'.length=es.length) (hL:zfn L κ (.ptr b 0,.box es')=some L') (w:Want ops Γ true gd) (r:zr C T d ops rest Γ L' Q):zr C T d ops (⟨none,.store et x y,ty,p,af,gd⟩::rest) Γ L Q:=zhY κ hu.u hk hc hl w rfl rfl hx hy hL r
theorem FL {p:Prop} (h:p:=by
 repeat first | exact zjl | exact zjZ | exact znk | apply zj0
 all_goals fail):p:=h
theorem EF {p:Prop} (h:p:=by
 repeat first | exact .n | (apply Flats.v; exact FL) | (apply Flats.r; exact FL)
 all_goals fail):p:=h
theorem ED {p:Prop} (h:p:=by
 repeat first | exact .n | (apply Lends.c; apply Lend.o; exact EO) | (apply Lends.c; apply Lend.r; exact EO; exact EL) | (apply Lends.c; apply Lend.b; exact EO; exact EL; exact EC)
 all_goals fail):p:=h
theorem wbu {zc:List ze} {places:List (Nat×Nat)} {parts:Array (Nat×Operand)} [hb:iB T et R zc places] (h:Bld Γ zc places R 0 0 parts.toList a) (w:Want ops Γ true gd) (r:zr C T d ops rest ((t,.val R a)::Γ) L Q):zr C T d ops (⟨some t,.build et parts,ty,p,af,gd⟩::rest) Γ L Q:=ziy hb.b w rfl rfl hb.a h r
theorem wsc {lo hi:Option Operand} {i0 j0:Int} [hs:iS T st R et] (hx:Opd Γ x (.val (zb R) xs)) (hlo:Bnd Γ lo 0 i0) (hhi:Bnd Γ hi (zm xs) j0) (hn:slO xs i0 j0=some ys) (w:Want ops Γ true gd) (r:zr C T d ops rest ((t,.val (zb R) ys)::Γ) L Q):zr C T d ops (⟨some t,.slice st x lo hi none,ty,p,af,gd⟩::rest) Γ L Q:=zzY hs.s hn w rfl rfl hx hlo hhi r
theorem wcb {az:Array Operand} {ats:Array TypeId} {α β:Type} {g:FuncId} {mm:Option α} {as:List TE} {rs:α->List RE} {f:α->Option β} {o:β} (ho:Zb mm f=some o) [hf:FI T g mm as rs] (hfl:∀ y,Flats (rs y)) (ha:Lends Γ L az.toList as) (hcs:T.consts.get g=none) (w:Want ops Γ true gd) (r:∀ y,mm=some y->f y=some o->RQ (rs y) L λes L'=>zr C T d ops rest ((t,zow es)::Γ) L' Q):zr C T d ops (⟨some t,.call ⟨.value (.func g),az,ats⟩,ty,p,af,gd⟩::rest) Γ L Q:=by
 obtain ⟨y,h1,h2⟩:=bnd ho;exact zj1 (fi h1) (hfl y) hcs w rfl rfl rfl .f ha (r y h1 h2)
theorem wco {az:Array Operand} {ats:Array TypeId} {α β:Type} {g:FuncId} {mm:Option α} {as:List TE} {rs:α->List RE} {f:α->Option β} {o:β} (ho:Zb mm f=some o) [hf:FI T g mm as rs] (ha:Opds Γ az.toList as) (hcs:T.consts.get g=none) (w:Want ops Γ true gd) (r:∀ y,mm=some y->f y=some o->RQ (rs y) L λes L'=>zr C T d ops rest ((t,zow es)::Γ) L' Q):zr C T d ops (⟨some t,.call ⟨.value (.func g),az,ats⟩,ty,p,af,gd⟩::rest) Γ L Q:=by
 obtain ⟨y,h1,h2⟩:=bnd ho;exact zyG (pre:=[]) (post:=[]) (vs:=[]) (fi h1) hcs w rfl rfl rfl .f ha (r y h1 h2)
theorem xmk {bytes:Nat} {x0:A} [hs:iS T st R et] [hy:iY T et R bytes] [hz:iZ T et R x0] (r:∀ v,zr C T d ops rest ((t,.raw v)::Γ) ((v,.row R xs)::L) Q) (hl:Opd Γ x (.val (zj .i64) m):=by exact EO) (hc:Opd Γ y (.val (zj .i64) m):=by exact EO) (hm:mkO bytes m x0=some xs:=by assumption) (w:Want ops Γ true gd:=by exact EW):zr C T d ops (⟨some t,.makeSlice st x y,ty,p,af,gd⟩::rest) Γ L Q:=wmk hl hc hm w r
theorem xap {κ bytes:Nat} {L':Own} {zs:List A} [hs:iS T st R et] [hy:iY T et R bytes] (r:∀ v',zr C T d ops rest ((t,.raw v')::Γ) ((v',.row R zs)::L') Q) (hx:Opd Γ x (.raw v):=by exact EO) (hk:L[κ]?=some (v,.row R xs):=by exact EL) (hy':Opd Γ y (.val (zb R) ys):=by exact EO) (hap:zdp bytes xs ys=some zs:=by assumption) (hL:zdM L κ=some L':=by rfl) (w:Want ops Γ true gd:=by exact EW) (hra:zgc d Γ L κ:=by exact ROO):zr C T d ops (⟨some t,.call ⟨.builtin .append,#[x,y],#[st,st]⟩,ty,p,af,gd⟩::rest) Γ L Q:=wap hx hk hy' hap hL w r hra
theorem OKS {p:Prop} (h:p:=by
 intro _;repeat first | exact okn | apply okint | apply okbool | apply oknil | apply okraw | apply oknilN
 all_goals fail):p:=h
theorem xal {zv:ze} {es:List TE} (hz:zeR T et=some zv) (r:∀ b,zr C T d ops rest ((t,.raw (.ptr b 0))::Γ) ((.ptr b 0,.box es)::L) Q) (hes:∀ z,zz z es zv.cells:=by exact OKS) (h1:zv.cells.all ze.one=true:=by rfl) (w:Want ops Γ true gd:=by exact EW):zr C T d ops (⟨some t,.alloc et,ty,p,af,gd⟩::rest) Γ L Q:=zov hz hes h1 w rfl rfl r
theorem xbo {es:List TE} (r:∀ b,zr C T d ops rest ((t,.raw (.ptr b 0))::Γ) ((.ptr b 0,.box es)::L) Q) (hx:Opd Γ x (.val R a):=by exact EO) (hc:Cells R a es:=by exact EC) (w:Want ops Γ true gd:=by exact EW):zr C T d ops (⟨some t,.box et x,ty,p,af,gd⟩::rest) Γ L Q:=zyF hc w rfl rfl hx r
theorem wrr {id:Nat} {os:Array Oper} {b:Code} (r:zr C T none os.toList os.toList Γ L (zA2 C T b P .normal)):zdX C T (.seq (.region id os false) b) Γ L P:=zkK (zev r)
theorem wnq {b:Code} {P2:zab->zf->za->Prop} (r:zdX C T b Γ L P2):zr C T d ops [] Γ L (λfr h=>Run T b fr h P2):=zpw rfl r
theorem wct {α:Type} {b b':Code} {k1 k0:Option α} {o:α} (ho:cond q k1 k0=some o) (r1:q=true->k1=some o->zdX C T b Γ L P) (r0:q=false->k0=some o->zdX C T b' Γ L P) (h:Opd Γ x (.val zau q):=by exact EO):zdX C T (.cond x b b') Γ L P:=
 znl h (λq=>r1 q (zBi ho q)) (λq=>r0 q (zBj ho q))
theorem wbr {α:Type} {k1 k0:Option α} {o:α} {F:Prop} (ho:cond q k1 k0=some o) (r1:q=true->k1=some o->F) (r0:q=false->k0=some o->F):F:=by
 cases q with
 | true=>exact r1 rfl ho
 | false=>exact r0 rfl ho
theorem wbd {α β:Type} {m:Option α} {f:α->Option β} {o:β} {F:Prop} (ho:Zb m f=some o) (r:∀ a,m=some a->f a=some o->F):F:=by
 obtain ⟨a,h1,h2⟩:=bnd ho;exact r a h1 h2
def zqV (Γ:Env):List Nat->Env
 | []=>[]
 | k::ks=>match look Γ k with
  | some e=>(k,e)::zqV Γ ks
  | none=>zqV Γ ks
theorem zAh:zqV Γ []=[]:=rfl
theorem zAi {k:Nat} {ks:List Nat} {Γ':Env} (h:look Γ k=some e) (r:zqV Γ ks=Γ'):zqV Γ (k::ks)=(k,e)::Γ':=by
 simp only [zqV,h,r]
theorem SEL {p:Prop} (h:p:=by
 repeat first | exact zAh | (apply zAi; rfl)
 all_goals fail):p:=h
theorem ALL {p:Prop} (h:p:=by
 repeat first | exact trivial | refine ⟨rfl, ?_⟩
 all_goals fail):p:=h
theorem NE {p:Prop} (h:p:=by
 intro t;repeat first | exact (λe=>by cases e) | rcases t with t | t
 all_goals fail):p:=h
theorem lf {α:Type} {a:α} {Γ':List ze->Env} {L':List ze->Own} (g:List ze) (is:List Nat) (q:zlW Γ (Γ' g):=by exact ALL) (hL:picks L is=L' g:=by rfl) (hn:is.Nodup:=by decide):∀ fr h,St C Γ L fr h->a=a/\∃ g,St C (Γ' g) (L' g) fr h:=λ_ _ s=>⟨rfl,g,s.pick is q hL hn⟩
theorem fn {g:FuncId} {F:Func} {c:Code} {as:List TE} {rs:List RE} (run:∀ C,C.B0=[]->zdX C T c (entry 0 as) [] (zt4 C T F.results.toList rs)) (hF:T.funcs.get g=some F:=by rfl) (hb:F.body=some c:=by rfl) (hn:Nat.blt F.ntmps as.length=false:=by rfl):Fun T g as rs:=zyL hF hb hn run
end
end Go.Ai.Sx
/- Runs of steps that need no word: found by trying. -/
namespace Go.Ai.Sx
open Option renaming bind->Zb,bind_some->Zs
structure Hold (q:Prop):Prop where h:q
theorem iu {T:Tab} {t:TypeId} {A:Type} {R:Rep A} [h:iU T t R]:Und T t R:=h.u
theorem st {p q:Prop} (r:q) (h:Hold q->p:=by
 intro r;first
  | (apply wmv; exact EM; exact EW; exact r.h)
  | (apply wsk; exact EN; exact r.h)
  | (apply wsg; exact EM; exact EW; exact r.h)
  | (apply wld; exact EO; exact EW; exact r.h)
  | (apply wfa; exact EO; exact EW; exact r.h)
  | (apply wp1; exact EO; exact EH; exact EO; exact EW; exact r.h)
  | (apply wp0; exact EO; exact EH; exact EO; exact EW; exact r.h)
  | (apply war; exact EO; exact EO; constructor; exact EW; exact r.h)
  | (apply wcm; exact EO; exact EO; constructor; exact EW; exact r.h)
  | (apply wln; exact EO; exact EW; exact r.h)
  | (apply wno; exact EO; exact EW; exact r.h)
  | (apply wex; exact EO; rfl; exact EW; exact r.h)
  | (apply wbx; exact EO; exact EW; exact r.h)
  | (apply wbs; exact EA; rfl; decide; exact EW; exact r.h)
  | (apply wlb; exact EO; exact EL; rfl; rfl; exact EW; exact ER; exact r.h)
  | (apply wle; exact EO; exact EL; exact FOk.self; rfl; exact EQ; exact EW; exact ER; exact r.h)
  | (apply wso; exact EO; exact EL; exact FOk.self; exact EO; rfl; exact EQ; rfl; exact EW; exact r.h)
  | (apply wss; exact EO; exact EL; exact EO; exact EC; rfl; rfl; exact EW; exact r.h)
  | (apply wsb; exact EO; exact EL; exact EO; rfl; rfl; exact Nat.le_of_ble_eq_true rfl; rfl; exact EW; exact r.h)
  | (apply wfr; exact EO; exact EW; exact r.h)
  | (apply wfe; exact EO; exact EW; exact r.h)
  | (apply wlo; exact EO; exact EL; exact EW; exact r.h)
  | (apply wnk; exact EO; exact EW; exact r.h)
  | (apply wnr; exact EO; exact EW; exact r.h)
  | (apply wfd; exact EO; exact EW; rfl; exact r.h)
  | (apply wse; exact EO; exact EO; exact EW; exact r.h)
  | (apply wbu; exact EB; exact EW; exact r.h)
  | (apply wng; exact EO; exact EW; exact r.h)
  | (apply wcv; exact EO; exact EW; exact r.h)
  | (apply wmx; exact EO; exact EO; exact EW; exact r.h)
  | (apply wmn; exact EO; exact EO; exact EW; exact r.h)):p:=h ⟨r⟩
theorem sp {p q:Prop} (r:q) (h:Hold q->p:=by
 intro r;first
  | (apply wix; exact EO; exact EO; exact EQ; exact EW; exact r.h)
  | (apply wio; exact EO; exact EL; exact EO; exact EQ; exact EW; exact r.h)
  | (apply wdv; exact EO; exact EO; exact EQ; exact EW; exact r.h)
  | (apply wrm; exact EO; exact EO; exact EQ; exact EW; exact r.h)
  | (apply wsr; exact EO; exact EO; exact EQ; exact EW; exact r.h)
  | (apply wsc; exact EO; exact ES; exact ES; exact EQ; exact EW; exact r.h)
  | (apply win; exact EO; exact EO; exact EQ; exact EW; exact r.h)
  | (apply wia; exact EO; exact EL; exact EO; exact EQ; exact EW; exact r.h)):p:=h ⟨r⟩
structure Cn (n:Nat):Prop where t:True
theorem Cn.dec {n:Nat} (_:Cn (n+1)):Cn n:=⟨trivial⟩
theorem run {p q:Prop} (n:Nat) (r:q) (h:Cn n->Hold q->p:=by
 intro hn r;repeat (replace hn:=hn.dec; first | refine st ?_ | refine sp ?_ | refine wnq ?_ | refine zkK ?_ | refine zev ?_ | refine zj2 ?_ | refine ziz rfl ?_ | refine zar [] (by kernel_rfl) ?_ | refine zj3 rfl ?_ | refine zjm rfl ?_)
 exact r.h):p:=h ⟨trivial⟩ ⟨r⟩
theorem RET {p:Prop} (h:p:=by
 repeat first | exact .n | (apply Rets.v; rfl) | (apply Rets.c; exact iu; rfl) | (apply Rets.r; rfl; exact EL)
 all_goals fail):p:=h
theorem w {α:Type} {m:Option α} {v:α} {p:Prop} (ho:m=some v) (h:m=some v->p:=by
 intro ho;repeat' first
  | refine st ?_
  | (apply wbd ho; intro _ _ ho; refine sp ?_)
  | (apply wcb ho; intro _; exact EF; exact ED; rfl; exact EW; intro _ _ ho)
  | (apply wco ho; exact EA; rfl; exact EW; intro _ _ ho)
  | refine wrr ?_ | refine wnq ?_ | refine zkK ?_ | refine zev ?_ | refine zar [] (by kernel_rfl) ?_ | refine ziz rfl ?_ | refine zj2 ?_ | refine zj3 rfl ?_
  | refine wct ho (λ_ ho=>?_) (λ_ ho=>?_)
  | (cases ho; exact ziw (lf [] []))
  | (cases ho; exact zrG (lf [] []))
  | (cases ho; exact zd0 (lf [] []))
  | (cases ho; exact zpv (lf [] []))
  | (cases ho; apply zd0; apply zcT; exact .inr rfl; exact RET; decide)
  | (cases ho; apply ziw; apply zcT; exact .inl rfl; exact RET; decide)
  | refine wbr ho (λ_ ho=>?_) (λ_ ho=>?_)):p:=h ho
end Go.Ai.Sx
/- Steps that find what comes ahead of them,too; facts of the tables in a word each. -/
namespace Go.Ai.Sx
open Option renaming bind->Zb,bind_some->Zs
universe u
section
variable {T:Tab} {t u s i et ft off n:Nat} {A B D:Type} {R:Rep A} {S:Rep B} {U:Rep D} {x:A}
theorem iu' [h:iU T t R]:Und T t R:=h.u
theorem is' [h:iS T t R et]:Sl T t et R:=h.s
theorem iy' [h:iY T t R n]:Ty T t R n:=h.y
theorem iz' [h:iZ T t R x]:Zr T t R x:=h.z
theorem ia' [h:iA T t R et n]:Ar1 T t et n R:=h.a
theorem uK {k:TypeDesc} (h:T.und t=some k:=by as_aux_lemma=>kernel_rfl):iK T t k:=⟨h⟩
theorem uU (h:szT T t=some R.sz:=by as_aux_lemma=>kernel_rfl) (h':zdI T t=some R.agg:=by as_aux_lemma=>kernel_rfl):iU T t R:=⟨⟨h,h'⟩⟩
theorem uS (h:T.und t=some (.slice et):=by as_aux_lemma=>kernel_rfl) (h1:szT T et=some R.sz:=by as_aux_lemma=>kernel_rfl) (h2:zdI T et=some R.agg:=by as_aux_lemma=>kernel_rfl) (h3:Nat.blt 0 R.sz=true:=by as_aux_lemma=>kernel_rfl):iS T t R et:=⟨⟨h,h1,h2,Nat.lt_of_not_le λq=>by rw [Nat.blt,Nat.ble_eq] at h3; omega⟩⟩
noncomputable def tyB (T:Tab) (t n m:Nat):Bool:=match T.types.get t with
 | some i=>Nat.beq i.bytes n&&Nat.beq i.size m&&(match i.zero with | some z=>Nat.beq z.cells.length m | none=>false)&&Nat.blt 0 m
 | none=>false
theorem uY (h:tyB T t n R.sz=true:=by as_aux_lemma=>kernel_rfl):iY T t R n:=by
 unfold tyB at h;split at h
 . rename_i j hj;simp only [Bool.and_eq_true,Nat.beq_eq] at h;obtain ⟨⟨⟨h1,h2⟩,h3⟩,h4⟩:=h;split at h3
   . rename_i z hz;exact ⟨⟨⟨j,hj,h1,h2⟩,⟨z,by unfold zeR; rw [hj]; exact hz,by simpa using h3⟩,by rw [Nat.blt,Nat.ble_eq] at h4; omega⟩⟩
   . cases h3
 . cases h
theorem uZ {zv:ze} (h:∀ z,TV R z zv x) (h':zeR T t=some zv:=by as_aux_lemma=>kernel_rfl):iZ T t R x:=⟨⟨⟨zv,h',h⟩⟩⟩
noncomputable def zA9 (T:Tab) (t:Nat):Option (List (Nat×Nat)):=match T.und t with
 | some (.struct fs)=>aplaces T fs.toList
 | _=>none
theorem uB {zc:List ze} {pl:List (Nat×Nat)} (h:zeR T t=some (.agg zc):=by as_aux_lemma=>kernel_rfl) (h1:zA9 T t=some pl:=by as_aux_lemma=>kernel_rfl) (h2:R.agg=true:=by rfl):iB T t R zc pl:=by
 refine ⟨⟨h, ?_⟩,h2⟩;unfold zA9 at h1;split at h1
 . rename_i fs hf;exact ⟨fs,hf,h1⟩
 . cases h1
noncomputable def zBa (T:Tab) (s i ft off n:Nat):Bool:=match T.und s with
 | some (.struct fs)=>(match fs[i]? with | some f=>Nat.beq f.offset off&&Nat.beq f.type ft | none=>false)&&(match szT T ft with | some m=>Nat.beq m n | none=>false)&&Nat.blt 0 n
 | _=>false
abbrev wh (x:A×B) (y:A):A×B:=(y,x.2)
abbrev wt (w:B->D->B) (x:A×B) (y:D):A×B:=(x.1,w x.2 y)
theorem fh:FOk (zH R S) 0 R (λx=>x.1) (λx y=>(y,x.2)):=FOk.here
theorem ft' {g:B->D} {w:B->D->B} (f:FOk S off U g w):FOk (zH R S) (R.sz+off) U (λx=>g x.2) (λx y=>(x.1,w x.2 y)):=FOk.there f
theorem uF {o:Nat} {g:A->B} {w:A->B->A} (k:FOk R o S g w) (h:zBa T s i ft off S.sz=true:=by as_aux_lemma=>kernel_rfl) (e:o=off:=by rfl):iF T s i R S ft off g w:=by
 unfold zBa at h;split at h
 . rename_i fs hf;simp only [Bool.and_eq_true] at h;obtain ⟨⟨h1,h2⟩,h3⟩:=h;split at h1
   . rename_i f hg;simp only [Bool.and_eq_true,Nat.beq_eq] at h1;split at h2
     . rename_i m hm;rw [Nat.beq_eq] at h2;exact ⟨⟨⟨fs,f,hf,hg,h1.1,h1.2⟩,by rw [hm,h2]⟩,e▸k,by rw [Nat.blt,Nat.ble_eq] at h3; omega⟩
     . cases h2
   . cases h1
 . cases h
theorem uA (h:T.und t=some (.array n et):=by as_aux_lemma=>kernel_rfl) (h1:szT T et=some R.sz:=by as_aux_lemma=>kernel_rfl) (h2:zdI T et=some R.agg:=by as_aux_lemma=>kernel_rfl) (h3:szT T t=some (n*R.sz):=by as_aux_lemma=>kernel_rfl) (h4:zdI T t=some true:=by as_aux_lemma=>kernel_rfl) (h5:0<R.sz:=by decide):iA T t R et n:=⟨⟨h,h1,h2,h3,h4,h5⟩⟩
class iL (T:Tab) (t:Nat) (zv:outParam ze) (es:outParam (List TE)):Prop where z:zeR T t=some zv
theorem uL {zv:ze} {es:List TE} (h:zeR T t=some zv:=by as_aux_lemma=>kernel_rfl):iL T t zv es:=⟨h⟩
end
structure Arg {A:Sort u} (a:A):Prop where t:True
theorem arg {A:Sort u} {a:A}:Arg a:=⟨trivial⟩
theorem go {p q:Prop} (r:q) (h:Hold q->p:=by
 intro r;repeat (first | refine st ?_ | refine sp ?_ | refine wnq ?_ | refine zkK ?_ | refine zev ?_ | refine zj2 ?_ | refine ziz rfl ?_ | refine zar [] (by kernel_rfl) ?_ | refine zj3 rfl ?_ | refine zjm rfl ?_)
 exact r.h):p:=h ⟨r⟩
section
variable {C:Ctx} {T:Tab} {p:Prop} {α β σ τ:Type} {k k':Option α} {m:Option α} {f:α->Option β} {o:α} {o':β} {c:Bool}
theorem gct {q1 q0:Prop} (ho:cond c k k'=some o) (r1:c=true->k=some o->q1) (r0:c=false->k'=some o->q0) (h:cond c k k'=some o->Hold (c=true->k=some o->q1)->Hold (c=false->k'=some o->q0)->p:=by
 intro ho r1 r0;refine go ?_;exact wct ho r1.h r0.h):p:=h ho ⟨r1⟩ ⟨r0⟩
theorem gk {q:Prop} (r:q) (h:Hold q->p:=by
 intro r;refine go ?_;first | exact znl EO (λ_=>r.h) (λhq=>Bool.noConfusion hq) | exact znl EO (λhq=>Bool.noConfusion hq) (λ_=>r.h)):p:=h ⟨r⟩
theorem gcl {q:α->Prop} (ho:Zb m f=some o') (r:∀ y,m=some y->f y=some o'->q y) (h:Zb m f=some o'->Hold (∀ y,m=some y->f y=some o'->q y)->p:=by
 intro ho r;refine go ?_;first
  | (apply wcb ho; intro _; exact EF; exact ED; rfl; exact EW; intro y h1 h2; first | (show zr ..; exact r.h y h1 h2) | exact r.h y h1 h2)
  | (apply wco ho; exact EA; rfl; exact EW; intro y h1 h2; first | (show zr ..; exact r.h y h1 h2) | exact r.h y h1 h2)):p:=h ho ⟨r⟩
theorem wzl {Γ:Env} {L:Own} {Q:zf->za->Prop} {d:Option (List Nat)} {ops rest:List Oper} {t et ty:Nat} {ps:String} {af:Array Edge} {gd:Option (Nat×Bool)} {zv:ze} {es:List TE} [hz:iL T et zv es] (hes:∀ z,zz z es zv.cells) (h1:zv.cells.all ze.one=true) (w:Want ops Γ true gd) (r:∀ b,zr C T d ops rest ((t,.raw (.ptr b 0))::Γ) ((.ptr b 0,.box es)::L) Q):zr C T d ops (⟨some t,.alloc et,ty,ps,af,gd⟩::rest) Γ L Q:=zov hz.z hes h1 w rfl rfl r
theorem gal {q:Nat->Prop} (r:∀ b,q b) (h:Hold (∀ b,q b)->p:=by
 intro r;refine go ?_;apply wzl;exact OKS;rfl;exact EW;exact r.h):p:=h ⟨r⟩
theorem gmk {q:ze->Prop} (r:∀ b,q b) (h:Hold (∀ b,q b)->p:=by
 intro r;refine go ?_;exact xmk r.h):p:=h ⟨r⟩
theorem gap {q:ze->Prop} (r:∀ b,q b) (h:Hold (∀ b,q b)->p:=by
 intro r;refine go ?_;exact xap r.h):p:=h ⟨r⟩
theorem c2' {A B:Type} {R:Rep A} {S:Rep B} {a:A} {b:B} {es:List TE} (h1:Cells R a (es.take R.sz)) (h2:Cells S b (es.drop R.sz)):Cells (zH R S) (a,b) es:=zq h1 h2 (List.take_append_drop ..)
theorem ED2 {p:Prop} (h:p:=by
 repeat first | exact za7 | exact zt rfl | (apply c1; rfl) | (apply c3; rfl) | apply c2'
 all_goals fail):p:=h
theorem zBl {n:Nat} {q:Prop} (hn:Cn n) (r:q) (h:Cn n->Hold q->p:=by
 intro hn r;repeat (replace hn:=hn.dec; first | refine st ?_ | refine sp ?_ | refine wnq ?_ | refine zkK ?_ | refine zev ?_ | refine zj2 ?_ | refine ziz rfl ?_ | refine zar [] (by kernel_rfl) ?_ | refine zj3 rfl ?_ | refine zjm rfl ?_)
 exact r.h):p:=h hn ⟨r⟩
theorem nrA {C:Ctx} {Γ:Env} {L:Own} {A:Type} {R:Rep A} (_:Arg R):∀ z fr h,StZ C Γ L z fr h->∃ z',z.le z'/\StZ C Γ ((.nilslice,.row R [])::L) z' fr h:=zcS R
theorem gnr {A:Type} (R:Rep A) {q:Prop} (r:q) (h:Arg R->Hold q->p:=by
 intro R r;refine go ?_;refine ze8 (nrA R) ?_;exact zdY (.n rfl) rfl rfl .nilr r.h):p:=h arg ⟨r⟩
theorem cmA {Γ:Env} {L:Own} {Q:zf->za->Prop} {d:Option (List Nat)} {ops rest:List Oper} {t ty:Nat} {ps:String} {af:Array Edge} {gd:Option (Nat×Bool)} {az:Array Operand} {ats:Array TypeId} {g:FuncId} {as:List TE} {rs:List RE} {L0 Lr:Own} {L1:List ze->Own} {ks js:List Nat} (_:Arg ks) (_:Arg js) (hf:zjn T g as L0 rs L1) (hser:zh0 d ops rest) (h0:picks L ks=L0) (hr:picks L js=Lr) (hn:(ks++js).Nodup) (hcst:T.consts.get g=none) (w:Want ops Γ true gd) (hvs:Opds Γ az.toList as) (r:∀ γ,RQ rs (L1 γ++Lr) λes L'=>zr C T none ops rest ((t,zow es)::Γ) L' Q):zr C T d ops (⟨some t,.call ⟨.value (.func g),az,ats⟩,ty,ps,af,gd⟩::rest) Γ L Q:=zuc ks js hser hf h0 hr hn hcst w rfl rfl rfl .f hvs r
theorem gcm {g:FuncId} {as:List TE} {rs:List RE} {L0:Own} {L1:List ze->Own} (ks js:List Nat) (hf:zjn T g as L0 rs L1) {q:Prop} (r:q) (h:Arg ks->Arg js->zjn T g as L0 rs L1->Hold q->p:=by
 intro ks js hf r;refine go ?_;apply cmA ks js hf;exact λ_ h=>by cases h
 rfl;rfl;decide;rfl;exact EW;exact EA;exact r.h):p:=h arg arg hf ⟨r⟩
theorem wvv {Γ:Env} {L:Own} {Q:zf->za->Prop} {d:Option (List Nat)} {ops rest:List Oper} {t ty:Nat} {ps:String} {af:Array Edge} {gd:Option (Nat×Bool)} {X Y:Type} {ins:X->List TE} {outs:Y->List RE} {z:Operand} {az:Array Operand} {ats:Array TypeId} {f:X->Option Y} {x:X} {y:Y} (hx:Opd Γ z (.val (rFn T X Y ins outs) f)) (hf:f x=some y) (w:Want ops Γ true gd) (hvs:Opds Γ az.toList (ins x)) (r:RQ (outs y) L λes L'=>zr C T d ops rest ((t,zow es)::Γ) L' Q):zr C T d ops (⟨some t,.call ⟨.value z,az,ats⟩,ty,ps,af,gd⟩::rest) Γ L Q:=zwA hf w rfl rfl rfl hx hvs r
theorem gcv {q:Prop} (hy:m=some o) (r:q) (h:m=some o->Hold q->p:=by
 intro hy r;refine go ?_;apply wvv;exact EO;exact hy;exact EW;exact EA;show zr ..;exact r.h):p:=h hy ⟨r⟩
theorem wlc {κ:Nat} {Γ:Env} {L:Own} {Q:zf->za->Prop} {d:Option (List Nat)} {ops rest:List Oper} {t et ty b:Nat} {ps:String} {af:Array Edge} {gd:Option (Nat×Bool)} {A:Type} {R:Rep A} {x:Operand} {es:List TE} {a:A} (_:Arg a) (_:Arg κ) [hu:iU T et R] (hx:Opd Γ x (.raw (.ptr b 0))) (hk:L[κ]?=some (.ptr b 0,.box es)) (hc:Cells R a es) (w:Want ops Γ true gd) (hls:Listed d ops rest) (r:zr C T d ops rest ((t,.val R a)::Γ) L Q):zr C T d ops (⟨some t,.load et x,ty,ps,af,gd⟩::rest) Γ L Q:=zt3 κ hls hu.u hc w rfl rfl hx hk r
theorem glb {A:Type} (a:A) (κ:Nat) {q:Prop} (r:q) (h:Arg a->Arg κ->Hold q->p:=by
 intro a k r;refine go ?_;apply wlc a k;exact EO;rfl;exact ED2;exact EW;exact ER;exact r.h):p:=h arg arg ⟨r⟩
theorem EAR {p:Prop} (h:p:=by
 repeat first | exact trivial | refine ⟨rfl, ?_⟩
 all_goals fail):p:=h
theorem frA {Γ:Env} {L L':Own} {Q:zf->za->Prop} {d:Option (List Nat)} {ops rest:List Oper} {A:Type} {R:Rep A} {a:A} {es:List TE} {b κ:Nat} {ts:List Nat} (_:Arg R) (_:Arg a) (_:Arg κ) (_:Arg ts) (hk:L[κ]?=some (.ptr b 0,.box es)) (hc:Cells R a es) (hL:zdM L κ=some L') (hts:zhX Γ (.ptr b 0) ts) (r:zr C T d ops rest (zfG ts (.val (z5 R) a) Γ) L' Q):zr C T d ops rest Γ L Q:=ze8 (ze9 κ ts hc hk hL hts) r
theorem gfz {A:Type} (n:Nat) (R:Rep A) (a:A) (κ:Nat) (ts:List Nat) {q:Prop} (r:q) (h:Cn n->Arg R->Arg a->Arg κ->Arg ts->Hold q->p:=by
 intro n R a k ts r;refine zBl n ?_;apply frA R a k ts;rfl;exact ED2;rfl;exact EAR;exact r.h):p:=h ⟨trivial⟩ arg arg arg arg ⟨r⟩
theorem lfA {Γ:Env} {L:Own} {γ:Type} {a:γ} {Γ':List ze->Env} {L':List ze->Own} {g:List ze} {is:List Nat} (_:Arg g) (_:Arg is) (q:zlW Γ (Γ' g):=by exact ALL) (hL:picks L is=L' g:=by rfl) (hn:is.Nodup:=by decide):∀ fr h,St C Γ L fr h->a=a/\∃ g,St C (Γ' g) (L' g) fr h:=λ_ _ s=>⟨rfl,g,s.pick is q hL hn⟩
theorem pkA {Γ Γ':Env} {L L':Own} {is:List Nat} (_:Arg is) (q:zlW Γ Γ':=by exact ALL) (hL:picks L is=L':=by rfl) (hn:is.Nodup:=by decide):∀ fr h,St C Γ L fr h->St C Γ' L' fr h:=λ_ _ s=>s.pick is q hL hn
theorem lv (g:List ze) (is:List Nat) {a b:β} (ho:some a=some b) (h:Arg g->Arg is->some a=some b->p:=by
 intro g is ho;refine go ?_;cases ho;first | exact ziw (lfA g is) | exact zrG (lfA g is) | exact zd0 (lfA g is) | exact zpv (lfA g is) | exact id (lfA g is)):p:=h arg arg ho
theorem RTb {L:Own} {Γ:Env} {A:Type} {R:Rep A} {y:A} {t b:Nat} {ty:TypeId} {es:List TE} {res:List ResultVar} {rs:List RE} {k:Nat} {ks:List Nat} (h:look Γ t=some (.raw (.ptr b 0))) (hk:L[k]?=some (.ptr b 0,.box es)) (hu:Und T ty R) (hc:Cells R y es) (r:Rets T Γ L res rs ks):Rets T Γ L (.cell t ty::res) (.val R y::rs) ks:=.b k hu hc h hk r
theorem RT {p:Prop} (h:p:=by
 repeat first | exact .n | (apply Rets.v; rfl) | (apply Rets.c; exact iu; rfl) | (apply Rets.r; rfl; exact EL) | (apply RTb; rfl; exact EL; exact iu; exact ED2)
 all_goals fail):p:=h
theorem rv {a b:β} (ho:some a=some b) (h:some a=some b->p:=by
 intro ho;refine go ?_;cases ho;first | (apply zd0; apply zcT; exact .inr rfl; exact RT; decide) | (apply ziw; apply zcT; exact .inl rfl; exact RT; decide) | (apply id; apply zcT; exact .inr rfl; exact RT; decide) | (apply id; apply zcT; exact .inl rfl; exact RT; decide)):p:=h ho
theorem we {m:Option α} {v:α} (ho:m=some v) (h:m=some v->p:=by
 intro ho;repeat' first
  | refine st ?_
  | (apply wbd ho; intro _ _ ho; refine sp ?_)
  | (apply wcb ho; intro _; exact EF; exact ED; rfl; exact EW; intro _ _ ho)
  | (apply wco ho; exact EA; rfl; exact EW; intro _ _ ho)
  | refine wrr ?_ | refine wnq ?_ | refine zkK ?_ | refine zev ?_ | refine zar [] (by kernel_rfl) ?_ | refine ziz rfl ?_ | refine zj2 ?_ | refine zj3 rfl ?_ | refine zjm rfl ?_
  | refine wct ho (λ_ ho=>?_) (λ_ ho=>?_)
  | (apply wzl; exact OKS; rfl; exact EW; intro _)
  | (cases ho; exact ziw (lf [] []))
  | (cases ho; exact zrG (lf [] []))
  | (cases ho; exact zd0 (lf [] []))
  | (cases ho; exact zpv (lf [] []))
  | (cases ho; apply zd0; apply zcT; exact .inr rfl; exact RT; decide)
  | (cases ho; apply ziw; apply zcT; exact .inl rfl; exact RT; decide)
  | refine wbr ho (λ_ ho=>?_) (λ_ ho=>?_)):p:=h ho
theorem ubn {m:Option α} {f:α->Option β} {o:Option β} (h:Zb m f=o):Zb m f=o:=h
theorem ucn {o:Option α} (h:cond c k k'=o):cond c k k'=o:=h
theorem usm {a:α} {o:Option α} (h:some a=o):some a=o:=h
theorem fw {g:FuncId} {as:List TE} {rs:α->List RE} (h:FI T g m as rs:=by
 refine ⟨λout ho=>?_⟩;first | replace ho:=ubn ho | replace ho:=ucn ho | replace ho:=usm ho
 refine fn λ_ _=>?_;exact we ho):FI T g m as rs:=h
theorem zAj {L:Own}:picks L []=[]:=rfl
theorem zAk {L L':Own} {k:Nat} {ks:List Nat} {e:ze×Obj} (h:L[k]?=some e) (r:picks L ks=L'):picks L (k::ks)=e::L':=by
 simp only [picks,h,r]
theorem PKS {p:Prop} (h:p:=by
 repeat first | exact zAj | (apply zAk; rfl)
 all_goals fail):p:=h
theorem zhr {α β γ:Type} {m:Option α} {m2:α->Option β} {k:α->β->Option γ} {y:γ} (h:m.bind (λx=>(m2 x).bind (k x))=some y):∃ x,m=some x/\∃ z,m2 x=some z/\k x z=some y:=by
 obtain ⟨x,h1,h⟩:=bnd h;exact ⟨x,h1,bnd h⟩
theorem zvJ {α β γ δ:Type} {m:Option α} {m2:α->Option β} {m3:α->β->Option γ} {k:α->β->γ->Option δ} {y:δ} (h:m.bind (λx=>(m2 x).bind λz=>(m3 x z).bind (k x z))=some y):∃ x,m=some x/\∃ z,m2 x=some z/\∃ u,m3 x z=some u/\k x z u=some y:=by
 obtain ⟨x,h1,h⟩:=bnd h;exact ⟨x,h1,zhr h⟩
abbrev wI (n:Int):RE:=.val (zj .i64) n
abbrev wB (b:Bool):RE:=.val zau b
theorem zoH {Γ:Env}:∀ ks,zlW Γ (zqV Γ ks)
 | []=>trivial
 | k::ks=>by
  simp only [zqV];split
  . rename_i e h;exact ⟨h,zoH ks⟩
  . exact zoH ks
theorem wkA {Γ Γ':Env} {L L':Own} {R:zf->za->Prop} {ks is:List Nat} (_:Arg ks) (_:Arg is) (hs:zqV Γ ks=Γ') (hL:picks L is=L') (hn:is.Nodup) (k:∀ fr h,St C Γ' L' fr h->R fr h):∀ fr h,St C Γ L fr h->R fr h:=zz7 is (hs▸zoH ks) hL hn k
theorem gwk {q:Prop} (ks is:List Nat) (r:q) (h:Arg ks->Arg is->Hold q->p:=by
 intro ks is r;refine wkA ks is SEL PKS (by decide) ?_;first | (show zdX ..; exact r.h) | (show zr ..; exact r.h) | exact r.h):p:=h arg arg ⟨r⟩
theorem wlq {Γ Γc:Env} {L Lc:Own} {P:zab->zf->za->Prop} {cc:Code} {f:σ->Option (σ⊕τ)} {N:Nat} {s0:σ} {tt:τ} (hit:iter f N s0=some tt) {ks os:List Nat} {V:σ->List ze->Sts} {X:τ->zab×(List ze->Sts)} {g0:List ze} (_:Arg ks) (_:Arg os) (_:Arg V) (_:Arg X) (_:Arg g0) (hs:zqV Γ ks=Γc) (hl:picks L os=Lc) (hin:∀ fr h,St C Γ L fr h->St C ((V s0 g0).1++Γc) ((V s0 g0).2++Lc) fr h) (hne:∀ t,(X t).1≠.normal)
 (body:∀ s g r,f s=some r->zdX C T cc ((V s g).1++Γc) ((V s g).2++Lc) (zwy C (λs g=>((V s g).1++Γc,(V s g).2++Lc)) (λt=>((X t).1,λg=>(((X t).2 g).1++Γc,((X t).2 g).2++Lc))) r))
 (out:∀ g,∀ fr h,St C (((X tt).2 g).1++Γc) (((X tt).2 g).2++Lc) fr h->P (X tt).1 fr h):zdX C T (.loop cc) Γ L P:=
 zyK (λs g=>((V s g).1++Γc,(V s g).2++Lc)) (λt=>((X t).1,λg=>(((X t).2 g).1++Γc,((X t).2 g).2++Lc))) f g0 hit hin hne body out
theorem glp {f:σ->Option (σ⊕τ)} {N:Nat} {s0:σ} {tt:τ} {q1:σ->List ze->σ⊕τ->Prop} {q2:List ze->Prop} (hit:iter f N s0=some tt) (ks os is:List Nat) (V:σ->List ze->Sts) (X:τ->zab×(List ze->Sts)) (g0:List ze)
 (body:∀ s g r,f s=some r->q1 s g r) (out:∀ g,q2 g) (h:iter f N s0=some tt->Arg ks->Arg os->Arg is->Arg V->Arg X->Arg g0->Hold (∀ s g r,f s=some r->q1 s g r)->Hold (∀ g,q2 g)->p:=by
 intro hit ks os is V X g0 b o;refine go ?_;refine wlq hit ks os V X g0 SEL PKS (pkA is) NE ?_ ?_
 . exact b.h
 . intro g;first | (show zdX ..; exact o.h g) | (show zr ..; exact o.h g) | exact o.h g):p:=h hit arg arg arg arg arg arg ⟨body⟩ ⟨out⟩
theorem wl2 {τ':Type} {Γ Γc:Env} {L Lc:Own} {P:zab->zf->za->Prop} {cc:Code} {f:σ->Option (σ⊕(τ⊕τ'))} {N:Nat} {s0:σ} {tt:τ⊕τ'} {F:τ->Option β} {G:τ'->Option β} (hit:iter f N s0=some tt) (ho:alt F G tt=some o') {ks os:List Nat} {V:σ->List ze->Sts} {X:τ->zab×(List ze->Sts)} {Y:τ'->zab×(List ze->Sts)} {g0:List ze} (a1:Arg ks) (a2:Arg os) (a3:Arg V) (_:Arg X) (_:Arg Y) (a4:Arg g0) (hs:zqV Γ ks=Γc) (hl:picks L os=Lc) (hin:∀ fr h,St C Γ L fr h->St C ((V s0 g0).1++Γc) ((V s0 g0).2++Lc) fr h) (hne:∀ t,(zyM X Y t).1≠.normal)
 (body:∀ s g r,f s=some r->zdX C T cc ((V s g).1++Γc) ((V s g).2++Lc) (zwy C (λs g=>((V s g).1++Γc,(V s g).2++Lc)) (λt=>((zyM X Y t).1,λg=>(((zyM X Y t).2 g).1++Γc,((zyM X Y t).2 g).2++Lc))) r))
 (o1:∀ a,F a=some o'->∀ g,∀ fr h,St C (((X a).2 g).1++Γc) (((X a).2 g).2++Lc) fr h->P (X a).1 fr h)
 (o2:∀ a,G a=some o'->∀ g,∀ fr h,St C (((Y a).2 g).1++Γc) (((Y a).2 g).2++Lc) fr h->P (Y a).1 fr h):zdX C T (.loop cc) Γ L P:=
 wlq hit a1 a2 a3 arg a4 hs hl hin hne body (match tt,ho with
  | .inl a,h=>o1 a h
  | .inr a,h=>o2 a h)
theorem gl2 {τ':Type} {f:σ->Option (σ⊕(τ⊕τ'))} {N:Nat} {s0:σ} {tt:τ⊕τ'} {F:τ->Option β} {G:τ'->Option β} {q1:σ->List ze->σ⊕(τ⊕τ')->Prop} {q2:τ->List ze->Prop} {q3:τ'->List ze->Prop} (hit:iter f N s0=some tt) (ho:alt F G tt=some o') (ks os is:List Nat) (V:σ->List ze->Sts) (X:τ->zab×(List ze->Sts)) (Y:τ'->zab×(List ze->Sts)) (g0:List ze)
 (body:∀ s g r,f s=some r->q1 s g r) (o1:∀ a,F a=some o'->∀ g,q2 a g) (o2:∀ a,G a=some o'->∀ g,q3 a g) (h:iter f N s0=some tt->alt F G tt=some o'->Arg ks->Arg os->Arg is->Arg V->Arg X->Arg Y->Arg g0->Hold (∀ s g r,f s=some r->q1 s g r)->Hold (∀ a,F a=some o'->∀ g,q2 a g)->Hold (∀ a,G a=some o'->∀ g,q3 a g)->p:=by
 intro hit ho ks os is V X Y g0 b o1 o2;refine go ?_;refine wl2 hit ho ks os V X Y g0 SEL PKS (pkA is) NE ?_ ?_ ?_
 . exact b.h
 . intro a h g;first | (show zdX ..; exact o1.h a h g) | (show zr ..; exact o1.h a h g) | exact o1.h a h g
 . intro a h g;first | (show zdX ..; exact o2.h a h g) | (show zr ..; exact o2.h a h g) | exact o2.h a h g):p:=h hit ho arg arg arg arg arg arg arg ⟨body⟩ ⟨o1⟩ ⟨o2⟩
theorem wcq' {Γ Γc:Env} {L Lc:Own} {P:zab->zf->za->Prop} {cc:Code} {tt:τ} {ks os:List Nat} {X:τ->zab×(List ze->Sts)} (_:Arg tt) (_:Arg ks) (_:Arg os) (_:Arg X) (hs:zqV Γ ks=Γc) (hl:picks L os=Lc) (r:zdX C T cc Γ L (zA3 C (λt=>((X t).1,λg=>(((X t).2 g).1++Γc,((X t).2 g).2++Lc))) tt)) (out:∀ g,∀ fr h,St C (((X tt).2 g).1++Γc) (((X tt).2 g).2++Lc) fr h->P (X tt).1 fr h):zdX C T cc Γ L P:=
 zzV (λt=>((X t).1,λg=>(((X t).2 g).1++Γc,((X t).2 g).2++Lc))) r out
theorem gcx {q1:Prop} {q2:List ze->Prop} (tt:τ) (ks os:List Nat) (X:τ->zab×(List ze->Sts)) (r:q1) (out:∀ g,q2 g) (h:Arg tt->Arg ks->Arg os->Arg X->Hold q1->Hold (∀ g,q2 g)->p:=by
 intro tt ks os X r o;refine wcq' tt ks os X SEL PKS ?_ ?_
 . exact r.h
 . intro g;first | (show zdX ..; exact o.h g) | (show zr ..; exact o.h g) | exact o.h g):p:=h arg arg arg arg ⟨r⟩ ⟨out⟩
end
end Go.Ai.Sx