/- Iterators that own a box: a function that makes one, and ranging over it. -/
import Derived.Test.YtmnbnppfidghoaaM7
import Derived.KernelRfl
set_option linter.unusedSimpArgs false
set_option linter.unusedVariables false
set_option linter.unusedSectionVars false
namespace Go.Ai.Sx
section
variable {C : Ctx} {T : Tab} {d : Option (List Nat)} {ops rest : List Oper} {Γ : Env} {L : Own} {Q : AFrame → AHeap → Prop} {P : AExit → AFrame → AHeap → Prop} {o : Oper} {t : Nat} {z : Store} {fr : AFrame} {h : AHeap}
end
end Go.Ai.Sx

/- Arrays that are written once: read where they lie. -/
namespace Go.Ai.Sx
section
variable {C : Ctx} {T : Tab} {d : Option (List Nat)} {ops rest : List Oper} {Γ : Env} {L : Own} {Q : AFrame → AHeap → Prop} {o : Oper} {t : Nat} {z : Store} {fr : AFrame} {h : AHeap}
end
end Go.Ai.Sx

/- Structs whose fields are filled in another order than they stand in. -/
namespace Go.Ai.Sx
section
variable {C : Ctx} {T : Tab} {d : Option (List Nat)} {ops rest : List Oper} {Γ : Env} {L : Own} {Q : AFrame → AHeap → Prop} {o : Oper} {t : Nat} {z : Store} {fr : AFrame} {h : AHeap}
end
end Go.Ai.Sx

/- Steps that find their own evidence: the printed walks name only what cannot be found. -/
namespace Go.Ai.Sx
class iU (T : Tab) (t : TypeId) {A : outParam Type} (R : outParam (Rep A)) : Prop where u : Und T t R
class iS (T : Tab) (st : TypeId) {A : outParam Type} (R : outParam (Rep A)) (et : outParam TypeId) : Prop where s : Sl T st et R
class iF (T : Tab) (s i : Nat) {A B : outParam Type} (R : outParam (Rep A)) (S : outParam (Rep B)) (ft off : outParam Nat) (g : outParam (A → B)) (w : outParam (A → B → A)) : Prop where
 f : Fld T s i ft off S.sz
 k : FOk R off S g w
 p : 0 < S.sz
class iY (T : Tab) (et : TypeId) {A : outParam Type} (R : outParam (Rep A)) (bytes : outParam Nat) : Prop where y : Ty T et R bytes
class iZ (T : Tab) (et : TypeId) {A : outParam Type} (R : outParam (Rep A)) (x : outParam A) : Prop where z : Zr T et R x
class iB (T : Tab) (t : TypeId) {A : outParam Type} (R : outParam (Rep A)) (zc : outParam (List AVal)) (places : outParam (List (Nat × Nat))) : Prop where
 b : Stt T t zc places
 a : R.agg = true
class iK (T : Tab) (t : TypeId) (k : outParam TypeDesc) : Prop where k : T.und t = some k
class iA (T : Tab) (t : TypeId) {A : outParam Type} (R : outParam (Rep A)) (et n : outParam Nat) : Prop where a : Ar1 T t et n R
class iE (T : Tab) (t : TypeId) {A : outParam Type} (R : outParam (Rep A)) (q : outParam (A → A → Bool)) : Prop where
 e : SEq T t R q
 a : R.agg = true
class FI {α : Type} (T : Tab) (g : FuncId) (m : Option α) (as : outParam (List TE)) (rs : outParam (α → List RE)) : Prop where ok : ∀ o, m = some o → Fun T g as (rs o)
theorem fi {α : Type} {T : Tab} {g : FuncId} {m : Option α} {as : List TE} {rs : α → List RE} [h : FI T g m as rs] {o : α} (e : m = some o) : Fun T g as (rs o) := h.ok o e
universe u
section
variable {A : Type u} {l : List A} {a b c e f g h i j : A}
theorem k0 : (a :: l)[0]? = some a := rfl
theorem k1 : (a :: b :: l)[1]? = some b := rfl
theorem k2 : (a :: b :: c :: l)[2]? = some c := rfl
theorem k3 : (a :: b :: c :: e :: l)[3]? = some e := rfl
theorem k4 : (a :: b :: c :: e :: f :: l)[4]? = some f := rfl
theorem k5 : (a :: b :: c :: e :: f :: g :: l)[5]? = some g := rfl
theorem k6 : (a :: b :: c :: e :: f :: g :: h :: l)[6]? = some h := rfl
theorem k7 : (a :: b :: c :: e :: f :: g :: h :: i :: l)[7]? = some i := rfl
theorem k8 : (a :: b :: c :: e :: f :: g :: h :: i :: j :: l)[8]? = some j := rfl
end
section
variable {C : Ctx} {T : Tab} {d : Option (List Nat)} {ops rest : List Oper} {Γ : Env} {L : Own} {Q : AFrame → AHeap → Prop} {P : AExit → AFrame → AHeap → Prop} {e e' : TE} {t i j : Nat} {x y z : Operand} {ty u u' et st : TypeId} {p : String} {af : Array Edge} {gd : Option (Nat × Bool)} {A B : Type} {R : Rep A} {S : Rep B} {k k' : IntKind} {m n i' : Int} {v : AVal} {q : Bool} {a : A} {xs ys : List A} {c : Call}
abbrev vI (n : Int) : TE := .val (rInt .i64) n
abbrev vB (b : Bool) : TE := .val rBool b
theorem c1 {b : B} {fs : List TE} (h1 : R.agg = false) (h2 : Cells S b fs) : Cells (rPair R S) (a, b) (.val R a :: fs) := cells_pair (cells_one h1) h2 rfl
theorem c2 {b : B} {es fs : List TE} (h1 : Cells R a es) (h2 : Cells S b fs) : Cells (rPair R S) (a, b) (es ++ fs) := cells_pair h1 h2 rfl
theorem gl1 : (true == true) = true := rfl
theorem gl0 : (false == false) = true := rfl
theorem gm1 : (true == false) = false := rfl
theorem gm0 : (false == true) = false := rfl
theorem EQ {p : Prop} (h : p := by first | with_reducible assumption | assumption) : p := h
theorem EW {p : Prop} (h : p := by first | exact .n rfl | (apply Want.g; rfl; rfl; first | (apply gt1; with_reducible assumption) | (apply gf0; with_reducible assumption) | with_reducible exact gl1 | with_reducible exact gl0)) : p := h
theorem EN {p : Prop} (h : p := by first | exact .u rfl rfl rfl | (apply Want.g; rfl; rfl; first | (apply gf1; with_reducible assumption) | (apply gt0; with_reducible assumption) | with_reducible exact gm1 | with_reducible exact gm0)) : p := h
theorem EO {p : Prop} (h : p := by first | exact .t rfl | exact .i (by decide) (by decide) | exact .b | exact .f | exact .nil) : p := h
theorem EM {p : Prop} (h : p := by first | exact .t rfl | exact .i (by decide) (by decide) | exact .b | exact .f) : p := h
theorem EL {p : Prop} (h : p := by first | exact k0 | exact k1 | exact k2 | exact k3 | exact k4 | exact k5 | exact k6 | exact k7 | exact k8) : p := h
theorem EC {p : Prop} (h : p := by
 repeat first | exact cells_unit | exact cells_one rfl | (apply c1; rfl) | apply c2
 all_goals fail) : p := h
theorem EZ {p : Prop} (h : p := by
 repeat first | exact zint | exact zbool | exact znil | exact zunit | exact znilN | exact znilM | exact ⟨rfl, by decide, by decide⟩ | apply zpair | rfl
 all_goals fail) : p := h
theorem EB {p : Prop} (h : p := by
 repeat first | exact .n rfl | (apply Bld.p; exact EO; rfl) | (apply Bld.z; intro _; exact EZ)
 all_goals fail) : p := h
theorem ES {p : Prop} (h : p := by first | exact .n | exact .s EO) : p := h
theorem ER {p : Prop} (h : p := by intro _ h; cases h <;> rfl) : p := h
theorem EA {p : Prop} (h : p := by
 repeat first | exact .n | (apply Opds.c; exact EO) | (apply Elts.c; exact EO)
 all_goals fail) : p := h
theorem EH {p : Prop} (h : p := by first | with_reducible assumption | with_reducible rfl) : p := h
theorem EG {p : Prop} (h : p := by first | exact FOk.self | exact (inferInstanceAs (iF _ _ _ _ _ _ _ _ _)).k) : p := h
theorem wmv (h : Opd Γ x e) (w : Want ops Γ true gd) (r : SOps C T d ops rest ((t, e) :: Γ) L Q) : SOps C T d ops (⟨some t, .move x, ty, p, af, gd⟩ :: rest) Γ L Q := s_move w rfl rfl h r
theorem wsg (h : Opd Γ x e) (w : Want ops Γ true gd) (r : SOps C T d ops rest ((t, e) :: Γ) L Q) : SOps C T d ops (⟨some t, .assign x, ty, p, af, gd⟩ :: rest) Γ L Q := s_assign w rfl rfl h r
theorem wsk {o : Op} (w : Want ops Γ false (some (j, q))) (r : SOps C T d ops rest ((t, .raw unit) :: Γ) L Q) : SOps C T d ops (⟨some t, o, ty, p, af, some (j, q)⟩ :: rest) Γ L Q := s_skip w rfl r
theorem wsn {o : Op} (w : Want ops Γ false (some (j, q))) (r : SOps C T d ops rest Γ L Q) : SOps C T d ops (⟨none, o, ty, p, af, some (j, q)⟩ :: rest) Γ L Q := s_skip_ w rfl r
theorem wld [hu : iU T et R] (h : Opd Γ x (.val (rPtr R) a)) (w : Want ops Γ true gd) (r : SOps C T d ops rest ((t, .val R a) :: Γ) L Q) : SOps C T d ops (⟨some t, .load et x, ty, p, af, gd⟩ :: rest) Γ L Q := s_load hu.u w rfl rfl h r
theorem wfa {s ft off : Nat} {g : A → B} {f : A → B → A} [hf : iF T s i R S ft off g f] (h : Opd Γ x (.val (rPtr R) a)) (w : Want ops Γ true gd) (r : SOps C T d ops rest ((t, .val (rPtr S) (g a)) :: Γ) L Q) : SOps C T d ops (⟨some t, .fieldAddr s x i, ty, p, af, gd⟩ :: rest) Γ L Q := s_fa hf.f hf.k hf.p w rfl rfl h r
theorem wfe {s ft off j' o0 : Nat} {g : A → B} {f : A → B → A} [hf : iF T s i R S ft off g f] (h : Opd Γ x (.elt v j' o0)) (w : Want ops Γ true gd) (r : SOps C T d ops rest ((t, .elt v j' (o0 + off)) :: Γ) L Q) : SOps C T d ops (⟨some t, .fieldAddr s x i, ty, p, af, gd⟩ :: rest) Γ L Q := s_faelt hf.f hf.p w rfl rfl h r
theorem wfr {s ft off b o0 : Nat} {g : A → B} {f : A → B → A} [hf : iF T s i R S ft off g f] (h : Opd Γ x (.raw (.ptr b o0))) (w : Want ops Γ true gd) (r : SOps C T d ops rest ((t, .raw (.ptr b (o0 + off))) :: Γ) L Q) : SOps C T d ops (⟨some t, .fieldAddr s x i, ty, p, af, gd⟩ :: rest) Γ L Q := s_faraw hf.f hf.p w rfl rfl h r
theorem wfd {s ft off : Nat} {g : A → B} {f : A → B → A} [hf : iF T s i R S ft off g f] [hu : iU T ft S] (h : Opd Γ x (.val R a)) (w : Want ops Γ true gd) (hR : R.agg = true) (r : SOps C T d ops rest ((t, .val S (g a)) :: Γ) L Q) : SOps C T d ops (⟨some t, .field s x i, ty, p, af, gd⟩ :: rest) Γ L Q := s_field hf.f hu.u hR hf.k w rfl rfl h r
theorem war {op : BinOp} (hx : Opd Γ x (.val (rInt k) m)) (hy : Opd Γ y (.val (rInt k) n)) (ha : Ar k m n op i') (w : Want ops Γ true gd) (r : SOps C T d ops rest ((t, .val (rInt k) i') :: Γ) L Q) : SOps C T d ops (⟨some t, .binOp op u x y u', ty, p, af, gd⟩ :: rest) Γ L Q := s_ar w rfl rfl hx hy ha r
theorem wdv (hx : Opd Γ x (.val (rInt k) m)) (hy : Opd Γ y (.val (rInt k) n)) (ha : divO k m n = some i') (w : Want ops Γ true gd) (r : SOps C T d ops rest ((t, .val (rInt k) i') :: Γ) L Q) : SOps C T d ops (⟨some t, .binOp .quo u x y u', ty, p, af, gd⟩ :: rest) Γ L Q := s_ar w rfl rfl hx hy (divO_inv ha) r
theorem wrm (hx : Opd Γ x (.val (rInt k) m)) (hy : Opd Γ y (.val (rInt k) n)) (ha : remO m n = some i') (w : Want ops Γ true gd) (r : SOps C T d ops rest ((t, .val (rInt k) i') :: Γ) L Q) : SOps C T d ops (⟨some t, .binOp .rem u x y u', ty, p, af, gd⟩ :: rest) Γ L Q := s_remO ha w rfl rfl hx hy r
theorem wsl (hx : Opd Γ x (.val (rInt k) m)) (hy : Opd Γ y (.val (rInt k') n)) (ha : shlO k m n = some i') (w : Want ops Γ true gd) (r : SOps C T d ops rest ((t, .val (rInt k) i') :: Γ) L Q) : SOps C T d ops (⟨some t, .binOp .shl u x y u', ty, p, af, gd⟩ :: rest) Γ L Q := s_shlO ha w rfl rfl hx hy r
theorem wsr (hx : Opd Γ x (.val (rInt k) m)) (hy : Opd Γ y (.val (rInt k') n)) (ha : shrO k m n = some i') (w : Want ops Γ true gd) (r : SOps C T d ops rest ((t, .val (rInt k) i') :: Γ) L Q) : SOps C T d ops (⟨some t, .binOp .shr u x y u', ty, p, af, gd⟩ :: rest) Γ L Q := s_shrO ha w rfl rfl hx hy r
theorem wcm {op : BinOp} (hx : Opd Γ x (.val (rInt k) m)) (hy : Opd Γ y (.val (rInt k) n)) (ha : Cmp m n op q) (w : Want ops Γ true gd) (r : SOps C T d ops rest ((t, .val rBool q) :: Γ) L Q) : SOps C T d ops (⟨some t, .binOp op u x y u', ty, p, af, gd⟩ :: rest) Γ L Q := s_cmp w rfl rfl hx hy ha r
theorem wbe {b b' : Bool} [hk : iK T u .bool] (hx : Opd Γ x (.val rBool b)) (hy : Opd Γ y (.val rBool b')) (w : Want ops Γ true gd) (r : SOps C T d ops rest ((t, .val rBool (b == b')) :: Γ) L Q) : SOps C T d ops (⟨some t, .binOp .eql u x y u', ty, p, af, gd⟩ :: rest) Γ L Q := s_beq hk.k w rfl rfl hx hy r
theorem wbn {b b' : Bool} [hk : iK T u .bool] (hx : Opd Γ x (.val rBool b)) (hy : Opd Γ y (.val rBool b')) (w : Want ops Γ true gd) (r : SOps C T d ops rest ((t, .val rBool (b != b')) :: Γ) L Q) : SOps C T d ops (⟨some t, .binOp .neq u x y u', ty, p, af, gd⟩ :: rest) Γ L Q := s_bne hk.k w rfl rfl hx hy r
theorem wse {a' : A} {f : A → A → Bool} [hs : iE T u R f] (hx : Opd Γ x (.val R a)) (hy : Opd Γ y (.val R a')) (w : Want ops Γ true gd) (r : SOps C T d ops rest ((t, .val rBool (f a a')) :: Γ) L Q) : SOps C T d ops (⟨some t, .binOp .eql u x y u', ty, p, af, gd⟩ :: rest) Γ L Q := s_seq hs.e hs.a w rfl rfl hx hy r
theorem wno (hx : Opd Γ x (.val rBool q)) (w : Want ops Γ true gd) (r : SOps C T d ops rest ((t, .val rBool (!q)) :: Γ) L Q) : SOps C T d ops (⟨some t, .unOp .not u x, ty, p, af, gd⟩ :: rest) Γ L Q := s_not w rfl rfl hx r
theorem wng (hx : Opd Γ x (.val (rInt k) m)) (w : Want ops Γ true gd) (r : SOps C T d ops rest ((t, .val (rInt k) (k.wrap (0 - m))) :: Γ) L Q) : SOps C T d ops (⟨some t, .unOp .neg u x, ty, p, af, gd⟩ :: rest) Γ L Q := s_neg w rfl rfl hx r
theorem wcv {ds : TypeDesc} [h1 : iK T u ds] [h2 : iK T u' (.int k')] (hx : Opd Γ x (.val (rInt k) m)) (w : Want ops Γ true gd) (r : SOps C T d ops rest ((t, .val (rInt k') (k'.wrap m)) :: Γ) L Q) : SOps C T d ops (⟨some t, .convert u u' x, ty, p, af, gd⟩ :: rest) Γ L Q := s_conv (by rw [h1.k]; rfl) h2.k w rfl rfl hx r
theorem wp1 (hc : Opd Γ z (.val rBool q)) (hb : q = true) (hx : Opd Γ x e) (w : Want ops Γ true gd) (r : SOps C T d ops rest ((t, e) :: Γ) L Q) : SOps C T d ops (⟨some t, .pick z x y, ty, p, af, gd⟩ :: rest) Γ L Q := s_pk1 hb w rfl rfl hc hx r
theorem wp0 (hc : Opd Γ z (.val rBool q)) (hb : q = false) (hy : Opd Γ y e) (w : Want ops Γ true gd) (r : SOps C T d ops rest ((t, e) :: Γ) L Q) : SOps C T d ops (⟨some t, .pick z x y, ty, p, af, gd⟩ :: rest) Γ L Q := s_pk0 hb w rfl rfl hc hy r
theorem wln [hs : iS T st R et] (hx : Opd Γ x (.val (rSlice R) xs)) (w : Want ops Γ true gd) (r : SOps C T d ops rest ((t, .val (rInt .i64) (lenI xs)) :: Γ) L Q) : SOps C T d ops (⟨some t, .call ⟨.builtin .len, #[x], #[st]⟩, ty, p, af, gd⟩ :: rest) Γ L Q := s_len hs.s w rfl rfl rfl rfl rfl hx r
theorem wlo {κ : Nat} [hs : iS T st R et] (hx : Opd Γ x (.raw v)) (hk : L[κ]? = some (v, .row R xs)) (w : Want ops Γ true gd) (r : SOps C T d ops rest ((t, .val (rInt .i64) (lenI xs)) :: Γ) L Q) : SOps C T d ops (⟨some t, .call ⟨.builtin .len, #[x], #[st]⟩, ty, p, af, gd⟩ :: rest) Γ L Q := s_leno κ hs.s w rfl rfl rfl rfl rfl hx hk r
theorem wmx {ats : Array TypeId} (hx : Opd Γ x (.val (rInt k) m)) (hy : Opd Γ y (.val (rInt k) n)) (w : Want ops Γ true gd) (r : SOps C T d ops rest ((t, .val (rInt k) (max m n)) :: Γ) L Q) : SOps C T d ops (⟨some t, .call ⟨.builtin .max, #[x, y], ats⟩, ty, p, af, gd⟩ :: rest) Γ L Q := s_max w rfl rfl rfl rfl hx hy r
theorem wmn {ats : Array TypeId} (hx : Opd Γ x (.val (rInt k) m)) (hy : Opd Γ y (.val (rInt k) n)) (w : Want ops Γ true gd) (r : SOps C T d ops rest ((t, .val (rInt k) (min m n)) :: Γ) L Q) : SOps C T d ops (⟨some t, .call ⟨.builtin .min, #[x, y], ats⟩, ty, p, af, gd⟩ :: rest) Γ L Q := s_min w rfl rfl rfl rfl hx hy r
theorem wix [hs : iS T st R et] (hx : Opd Γ x (.val (rSlice R) xs)) (hy : Opd Γ y (.val (rInt k) m)) (hi : idx xs m = some a) (w : Want ops Γ true gd) (r : SOps C T d ops rest ((t, .val (rPtr R) a) :: Γ) L Q) : SOps C T d ops (⟨some t, .indexAddr st x y, ty, p, af, gd⟩ :: rest) Γ L Q := s_idx hs.s hi w rfl rfl hx hy r
theorem wio {κ : Nat} [hs : iS T st R et] (hx : Opd Γ x (.raw v)) (hk : L[κ]? = some (v, .row R xs)) (hy : Opd Γ y (.val (rInt k) m)) (hi : idx xs m = some a) (w : Want ops Γ true gd) (r : SOps C T d ops rest ((t, .elt v m.toNat 0) :: Γ) L Q) : SOps C T d ops (⟨some t, .indexAddr st x y, ty, p, af, gd⟩ :: rest) Γ L Q := s_idxo κ hs.s hi w rfl rfl hx hk hy r
theorem wia {κ n' b : Nat} [hs : iA T st R et n'] (hx : Opd Γ x (.raw (.ptr b 0))) (hk : L[κ]? = some (.slice b 0 n' R.sz (some n'), .row R xs)) (hy : Opd Γ y (.val (rInt k) m)) (hi : idx xs m = some a) (w : Want ops Γ true gd) (r : SOps C T d ops rest ((t, .elt (.slice b 0 n' R.sz (some n')) m.toNat 0) :: Γ) L Q) : SOps C T d ops (⟨some t, .indexAddr st x y, ty, p, af, gd⟩ :: rest) Γ L Q := s_idxa κ hs.a hk hi w rfl rfl hx hy r
theorem win {n' : Nat} [hs : iA T st R et n'] (hx : Opd Γ x (.val (rArr n' R) xs)) (hy : Opd Γ y (.val (rInt k) m)) (hi : idx xs m = some a) (w : Want ops Γ true gd) (r : SOps C T d ops rest ((t, .val R a) :: Γ) L Q) : SOps C T d ops (⟨some t, .index st x y, ty, p, af, gd⟩ :: rest) Γ L Q := s_index hs.a hi w rfl rfl hx hy r
theorem wle {κ i0 off : Nat} {m0 : Int} {g : A → B} {f : A → B → A} [hu : iU T et S] (hx : Opd Γ x (.elt v i0 off)) (hk : L[κ]? = some (v, .row R xs)) (hf : FOk R off S g f) (hi : idx xs m0 = some a) (e0 : m0.toNat = i0) (w : Want ops Γ true gd) (hl : Listed d ops rest) (r : SOps C T d ops rest ((t, .val S (g a)) :: Γ) L Q) : SOps C T d ops (⟨some t, .load et x, ty, p, af, gd⟩ :: rest) Γ L Q := s_loado κ hl hu.u hf (e0 ▸ (idx_inv hi).2.2.2) w rfl rfl hx hk r
theorem wlb {κ b b' : Nat} {es : List TE} [hu : iU T et R] (hx : Opd Γ x (.raw (.ptr b b'))) (hk : L[κ]? = some (.ptr b 0, .box es)) (he : es[b']? = some e) (hg : R.agg = false) (w : Want ops Γ true gd) (hl : Listed d ops rest) (r : SOps C T d ops rest ((t, e) :: Γ) L Q) : SOps C T d ops (⟨some t, .load et x, ty, p, af, gd⟩ :: rest) Γ L Q := s_loadb κ hl (hg ▸ hu.u.agg) he w rfl rfl hx hk r
theorem wnk (hx : Opd Γ x (.val (rPtr R) a)) (w : Want ops Γ true gd) (r : SOps C T d ops rest ((t, .val (rPtr R) a) :: Γ) L Q) : SOps C T d ops (⟨some t, .nilCheck x, ty, p, af, gd⟩ :: rest) Γ L Q := s_nilck w rfl rfl hx r
theorem wnr {b b' : Nat} (hx : Opd Γ x (.raw (.ptr b b'))) (w : Want ops Γ true gd) (r : SOps C T d ops rest ((t, .raw (.ptr b b')) :: Γ) L Q) : SOps C T d ops (⟨some t, .nilCheck x, ty, p, af, gd⟩ :: rest) Γ L Q := s_nilckr w rfl rfl hx r
theorem wex {es : List TE} (hx : Opd Γ x (.tup es)) (he : es[i]? = some e) (w : Want ops Γ true gd) (r : SOps C T d ops rest ((t, e) :: Γ) L Q) : SOps C T d ops (⟨some t, .extract x i, ty, p, af, gd⟩ :: rest) Γ L Q := s_ext he w rfl rfl hx r
theorem wbx (hx : Opd Γ x (.val R a)) (w : Want ops Γ true gd) (r : SOps C T d ops rest ((t, .val (rPtr R) a) :: Γ) L Q) : SOps C T d ops (⟨some t, .box et x, ty, p, af, gd⟩ :: rest) Γ L Q := s_box w rfl rfl hx r
theorem wbs {bytes N : Nat} {parts : Array (Nat × Operand)} [hs : iS T st R et] [hy : iY T et R bytes] (he : Elts Γ R 0 parts.toList xs) (hn : xs.length = N) (hb : N * R.sz ≤ 2 ^ 24) (w : Want ops Γ true gd) (r : SOps C T d ops rest ((t, .val (rSlice R) xs) :: Γ) L Q) : SOps C T d ops (⟨some t, .buildSlice st N parts, ty, p, af, gd⟩ :: rest) Γ L Q := s_bs hs.s hy.y w rfl rfl he hn hb r
theorem wmk {bytes : Nat} {x0 : A} [hs : iS T st R et] [hy : iY T et R bytes] [hz : iZ T et R x0] (hl : Opd Γ x (.val (rInt .i64) m)) (hc : Opd Γ y (.val (rInt .i64) m)) (hm : mkO bytes m x0 = some xs) (w : Want ops Γ true gd) (r : ∀ v, SOps C T d ops rest ((t, .raw v) :: Γ) ((v, .row R xs) :: L) Q) : SOps C T d ops (⟨some t, .makeSlice st x y, ty, p, af, gd⟩ :: rest) Γ L Q := s_mk hs.s hy.y hz.z hm w rfl rfl hl hc r
theorem wap {κ bytes : Nat} {L' : Own} {zs : List A} [hs : iS T st R et] [hy : iY T et R bytes] (hx : Opd Γ x (.raw v)) (hk : L[κ]? = some (v, .row R xs)) (hy' : Opd Γ y (.val (rSlice R) ys)) (hap : appO bytes xs ys = some zs) (hL : dropAt L κ = some L') (w : Want ops Γ true gd) (r : ∀ v', SOps C T d ops rest ((t, .raw v') :: Γ) ((v', .row R zs) :: L') Q) (hra : RootsOff d Γ L κ) : SOps C T d ops (⟨some t, .call ⟨.builtin .append, #[x, y], #[st, st]⟩, ty, p, af, gd⟩ :: rest) Γ L Q := s_app κ hs.s hy.y hap w rfl rfl rfl rfl rfl hx hk hy' hL r hra
theorem wso {κ i0 off : Nat} {m0 : Int} {L' : Own} {b : B} {g : A → B} {f : A → B → A} [hu : iU T et S] (hx : Opd Γ x (.elt v i0 off)) (hk : L[κ]? = some (v, .row R xs)) (hf : FOk R off S g f) (hy : Opd Γ y (.val S b)) (hi : idx xs m0 = some a) (e0 : m0.toNat = i0) (hL : setAt L κ (v, .row R (xs.set i0 (f a b))) = some L') (w : Want ops Γ true gd) (r : SOps C T d ops rest Γ L' Q) : SOps C T d ops (⟨none, .store et x y, ty, p, af, gd⟩ :: rest) Γ L Q := s_storeo κ hu.u hf (e0 ▸ (idx_inv hi).2.2.2) w rfl rfl hx hy hk hL r
theorem wsb {κ b b' : Nat} {es : List TE} {L' : Own} [hu : iU T et R] (hx : Opd Γ x (.raw (.ptr b b'))) (hk : L[κ]? = some (.ptr b 0, .box es)) (hy : Opd Γ y (.val R a)) (hg : R.agg = false) (h1 : R.sz = 1) (hq : b' < es.length) (hL : setAt L κ (.ptr b 0, .box (es.set b' (.val R a))) = some L') (w : Want ops Γ true gd) (r : SOps C T d ops rest Γ L' Q) : SOps C T d ops (⟨none, .store et x y, ty, p, af, gd⟩ :: rest) Γ L Q := s_storeb κ (h1 ▸ hu.u.sz) hk hq w rfl rfl hx hy hg hL r
theorem wss {κ b : Nat} {es es' : List TE} {L' : Own} [hu : iU T et R] (hx : Opd Γ x (.raw (.ptr b 0))) (hk : L[κ]? = some (.ptr b 0, .box es)) (hy : Opd Γ y (.val R a)) (hc : Cells R a es') (hl : es'.length = es.length) (hL : setAt L κ (.ptr b 0, .box es') = some L') (w : Want ops Γ true gd) (r : SOps C T d ops rest Γ L' Q) : SOps C T d ops (⟨none, .store et x y, ty, p, af, gd⟩ :: rest) Γ L Q := s_storebs κ hu.u hk hc hl w rfl rfl hx hy hL r
theorem FL {p : Prop} (h : p := by
 repeat first | exact flat_int | exact flat_bool | exact flat_unit | apply flat_pair
 all_goals fail) : p := h
theorem EF {p : Prop} (h : p := by
 repeat first | exact .n | (apply Flats.v; exact FL) | (apply Flats.r; exact FL)
 all_goals fail) : p := h
theorem ED {p : Prop} (h : p := by
 repeat first | exact .n | (apply Lends.c; apply Lend.o; exact EO) | (apply Lends.c; apply Lend.r; exact EO; exact EL) | (apply Lends.c; apply Lend.b; exact EO; exact EL; exact EC)
 all_goals fail) : p := h
theorem wcl {az : Array Operand} {ats : Array TypeId} {α : Type} {g : FuncId} {mm : Option α} {as : List TE} {rs : α → List RE} {o : α} [hf : FI T g mm as rs] (hm : mm = some o) (hfl : Flats (rs o)) (ha : Lends Γ L az.toList as) (hcs : T.consts.get g = none) (w : Want ops Γ true gd) (r : RQ (rs o) L fun es L' => SOps C T d ops rest ((t, teOf es) :: Γ) L' Q) : SOps C T d ops (⟨some t, .call ⟨.value (.func g), az, ats⟩, ty, p, af, gd⟩ :: rest) Γ L Q := s_calll (fi hm) hfl hcs w rfl rfl rfl .f ha r
theorem wcq {az : Array Operand} {ats : Array TypeId} {α : Type} {g : FuncId} {mm : Option α} {as : List TE} {rs : α → List RE} {o : α} [hf : FI T g mm as rs] (hm : mm = some o) (ha : Opds Γ az.toList as) (hcs : T.consts.get g = none) (w : Want ops Γ true gd) (r : RQ (rs o) L fun es L' => SOps C T d ops rest ((t, teOf es) :: Γ) L' Q) : SOps C T d ops (⟨some t, .call ⟨.value (.func g), az, ats⟩, ty, p, af, gd⟩ :: rest) Γ L Q := s_call (pre := []) (post := []) (vs := []) (fi hm) hcs w rfl rfl rfl .f ha r
theorem wne {a' : A} [BEq A] [hs : iE T u R fun x y => x == y] (hx : Opd Γ x (.val R a)) (hy : Opd Γ y (.val R a')) (w : Want ops Γ true gd) (r : SOps C T d ops rest ((t, .val rBool (a != a')) :: Γ) L Q) : SOps C T d ops (⟨some t, .binOp .neq u x y u', ty, p, af, gd⟩ :: rest) Γ L Q := s_sne hs.e hs.a w rfl rfl hx hy r
theorem wbu {zc : List AVal} {places : List (Nat × Nat)} {parts : Array (Nat × Operand)} [hb : iB T et R zc places] (h : Bld Γ zc places R 0 0 parts.toList a) (w : Want ops Γ true gd) (r : SOps C T d ops rest ((t, .val R a) :: Γ) L Q) : SOps C T d ops (⟨some t, .build et parts, ty, p, af, gd⟩ :: rest) Γ L Q := s_build hb.b w rfl rfl hb.a h r
theorem wsc {lo hi : Option Operand} {i0 j0 : Int} [hs : iS T st R et] (hx : Opd Γ x (.val (rSlice R) xs)) (hlo : Bnd Γ lo 0 i0) (hhi : Bnd Γ hi (lenI xs) j0) (hn : slO xs i0 j0 = some ys) (w : Want ops Γ true gd) (r : SOps C T d ops rest ((t, .val (rSlice R) ys) :: Γ) L Q) : SOps C T d ops (⟨some t, .slice st x lo hi none, ty, p, af, gd⟩ :: rest) Γ L Q := s_slO hs.s hn w rfl rfl hx hlo hhi r
theorem wcb {az : Array Operand} {ats : Array TypeId} {α β : Type} {g : FuncId} {mm : Option α} {as : List TE} {rs : α → List RE} {f : α → Option β} {o : β} (ho : Option.bind mm f = some o) [hf : FI T g mm as rs] (hfl : ∀ y, Flats (rs y)) (ha : Lends Γ L az.toList as) (hcs : T.consts.get g = none) (w : Want ops Γ true gd) (r : ∀ y, mm = some y → f y = some o → RQ (rs y) L fun es L' => SOps C T d ops rest ((t, teOf es) :: Γ) L' Q) : SOps C T d ops (⟨some t, .call ⟨.value (.func g), az, ats⟩, ty, p, af, gd⟩ :: rest) Γ L Q := by
 obtain ⟨y, h1, h2⟩ := bnd ho
 exact s_calll (fi h1) (hfl y) hcs w rfl rfl rfl .f ha (r y h1 h2)
theorem wco {az : Array Operand} {ats : Array TypeId} {α β : Type} {g : FuncId} {mm : Option α} {as : List TE} {rs : α → List RE} {f : α → Option β} {o : β} (ho : Option.bind mm f = some o) [hf : FI T g mm as rs] (ha : Opds Γ az.toList as) (hcs : T.consts.get g = none) (w : Want ops Γ true gd) (r : ∀ y, mm = some y → f y = some o → RQ (rs y) L fun es L' => SOps C T d ops rest ((t, teOf es) :: Γ) L' Q) : SOps C T d ops (⟨some t, .call ⟨.value (.func g), az, ats⟩, ty, p, af, gd⟩ :: rest) Γ L Q := by
 obtain ⟨y, h1, h2⟩ := bnd ho
 exact s_call (pre := []) (post := []) (vs := []) (fi h1) hcs w rfl rfl rfl .f ha (r y h1 h2)
theorem xmk {bytes : Nat} {x0 : A} [hs : iS T st R et] [hy : iY T et R bytes] [hz : iZ T et R x0] (r : ∀ v, SOps C T d ops rest ((t, .raw v) :: Γ) ((v, .row R xs) :: L) Q) (hl : Opd Γ x (.val (rInt .i64) m) := by exact EO) (hc : Opd Γ y (.val (rInt .i64) m) := by exact EO) (hm : mkO bytes m x0 = some xs := by assumption) (w : Want ops Γ true gd := by exact EW) : SOps C T d ops (⟨some t, .makeSlice st x y, ty, p, af, gd⟩ :: rest) Γ L Q := wmk hl hc hm w r
theorem xap {κ bytes : Nat} {L' : Own} {zs : List A} [hs : iS T st R et] [hy : iY T et R bytes] (r : ∀ v', SOps C T d ops rest ((t, .raw v') :: Γ) ((v', .row R zs) :: L') Q) (hx : Opd Γ x (.raw v) := by exact EO) (hk : L[κ]? = some (v, .row R xs) := by exact EL) (hy' : Opd Γ y (.val (rSlice R) ys) := by exact EO) (hap : appO bytes xs ys = some zs := by assumption) (hL : dropAt L κ = some L' := by rfl) (w : Want ops Γ true gd := by exact EW) (hra : RootsOff d Γ L κ := by exact ROO) : SOps C T d ops (⟨some t, .call ⟨.builtin .append, #[x, y], #[st, st]⟩, ty, p, af, gd⟩ :: rest) Γ L Q := wap hx hk hy' hap hL w r hra
theorem OKS {p : Prop} (h : p := by
 intro _
 repeat first | exact okn | apply okint | apply okbool | apply oknil | apply okraw | apply oknilN
 all_goals fail) : p := h
theorem xal {zv : AVal} {es : List TE} (hz : zeroT T et = some zv) (r : ∀ b, SOps C T d ops rest ((t, .raw (.ptr b 0)) :: Γ) ((.ptr b 0, .box es) :: L) Q) (hes : ∀ z, okAll z es zv.cells := by exact OKS) (h1 : zv.cells.all AVal.one = true := by rfl) (w : Want ops Γ true gd := by exact EW) : SOps C T d ops (⟨some t, .alloc et, ty, p, af, gd⟩ :: rest) Γ L Q := s_alloc hz hes h1 w rfl rfl r
theorem xbo {es : List TE} (r : ∀ b, SOps C T d ops rest ((t, .raw (.ptr b 0)) :: Γ) ((.ptr b 0, .box es) :: L) Q) (hx : Opd Γ x (.val R a) := by exact EO) (hc : Cells R a es := by exact EC) (w : Want ops Γ true gd := by exact EW) : SOps C T d ops (⟨some t, .box et x, ty, p, af, gd⟩ :: rest) Γ L Q := s_boxo hc w rfl rfl hx r
theorem wrr {id : Nat} {os : Array Oper} {b : Code} (r : SOps C T none os.toList os.toList Γ L (SeqP C T b P .normal)) : SRun C T (.seq (.region id os false) b) Γ L P := r_seq (r_region r)
theorem rgg {id : Nat} {os : Array Oper} (r : SOps C T none os.toList os.toList Γ L (P .normal)) : SRun C T (.region id os false) Γ L P := r_region r
theorem wrn {id : Nat} {os : Array Oper} (h : (os.toList.all fun o => o.guard.isNone) = true) (r : SOps C T none os.toList os.toList Γ L (P .normal)) : SRun C T (.region id os false) Γ L P := r_region r
theorem wnq {b : Code} {P2 : AExit → AFrame → AHeap → Prop} (r : SRun C T b Γ L P2) : SOps C T d ops [] Γ L (fun fr h => Run T b fr h P2) := s_nilq rfl r
theorem wct {α : Type} {b b' : Code} {k1 k0 : Option α} {o : α} (ho : cond q k1 k0 = some o) (r1 : q = true → k1 = some o → SRun C T b Γ L P) (r0 : q = false → k0 = some o → SRun C T b' Γ L P) (h : Opd Γ x (.val rBool q) := by exact EO) : SRun C T (.cond x b b') Γ L P :=
 r_cond h (fun q => r1 q (cnd1 ho q)) (fun q => r0 q (cnd0 ho q))
theorem wbr {α : Type} {k1 k0 : Option α} {o : α} {F : Prop} (ho : cond q k1 k0 = some o) (r1 : q = true → k1 = some o → F) (r0 : q = false → k0 = some o → F) : F := by
 cases q with
 | true => exact r1 rfl ho
 | false => exact r0 rfl ho
theorem wbd {α β : Type} {m : Option α} {f : α → Option β} {o : β} {F : Prop} (ho : Option.bind m f = some o) (r : ∀ a, m = some a → f a = some o → F) : F := by
 obtain ⟨a, h1, h2⟩ := bnd ho
 exact r a h1 h2
theorem wal {α β γ : Type} {f : α → Option γ} {g : β → Option γ} {s : α ⊕ β} {o : γ} {F : α ⊕ β → Prop} (ho : alt f g s = some o) (r1 : ∀ a, f a = some o → F (.inl a)) (r0 : ∀ b, g b = some o → F (.inr b)) : F s := by
 cases s with
 | inl a => exact r1 a ho
 | inr b => exact r0 b ho
def selE (Γ : Env) : List Nat → Env
 | [] => []
 | k :: ks => match look Γ k with
  | some e => (k, e) :: selE Γ ks
  | none => selE Γ ks
theorem sel_n : selE Γ [] = [] := rfl
theorem sel_c {k : Nat} {ks : List Nat} {Γ' : Env} (h : look Γ k = some e) (r : selE Γ ks = Γ') : selE Γ (k :: ks) = (k, e) :: Γ' := by
 simp only [selE, h, r]
theorem SEL {p : Prop} (h : p := by
 repeat first | exact sel_n | (apply sel_c; rfl)
 all_goals fail) : p := h
theorem ALL {p : Prop} (h : p := by
 repeat first | exact trivial | refine ⟨rfl, ?_⟩
 all_goals fail) : p := h
theorem NE {p : Prop} (h : p := by
 intro t
 repeat first | exact (fun e => by cases e) | rcases t with t | t
 all_goals fail) : p := h
theorem wlp {σ τ : Type} {cc : Code} {Γc : Env} {f : σ → Option (σ ⊕ τ)} {N : Nat} {s0 : σ} {tt : τ} (hit : iter f N s0 = some tt) (ks : List Nat) (V : σ → List AVal → Sts) (X : τ → AExit × (List AVal → Sts)) (g0 : List AVal) (hs : selE Γ ks = Γc) (hin : ∀ fr h, St C Γ L fr h → St C ((V s0 g0).1 ++ Γc) (V s0 g0).2 fr h) (hne : ∀ t, (X t).1 ≠ .normal)
    (body : ∀ s g r, f s = some r → SRun C T cc ((V s g).1 ++ Γc) (V s g).2 (LoopP C (fun s g => ((V s g).1 ++ Γc, (V s g).2)) (fun t => ((X t).1, fun g => (((X t).2 g).1 ++ Γc, ((X t).2 g).2))) r))
    (out : ∀ g, ∀ fr h, St C (((X tt).2 g).1 ++ Γc) ((X tt).2 g).2 fr h → P (X tt).1 fr h) : SRun C T (.loop cc) Γ L P :=
  r_loop (fun s g => ((V s g).1 ++ Γc, (V s g).2)) (fun t => ((X t).1, fun g => (((X t).2 g).1 ++ Γc, ((X t).2 g).2))) f g0 hit hin hne body out
theorem wcx {τ : Type} {cc : Code} {Γc : Env} (tt : τ) (ks : List Nat) (X : τ → AExit × (List AVal → Sts)) (hs : selE Γ ks = Γc) (r : SRun C T cc Γ L (CutP C (fun t => ((X t).1, fun g => (((X t).2 g).1 ++ Γc, ((X t).2 g).2))) tt)) (out : ∀ g, ∀ fr h, St C (((X tt).2 g).1 ++ Γc) ((X tt).2 g).2 fr h → P (X tt).1 fr h) : SRun C T cc Γ L P :=
 r_cut (fun t => ((X t).1, fun g => (((X t).2 g).1 ++ Γc, ((X t).2 g).2))) r out
theorem pk {Γ' : Env} {L' : Own} (is : List Nat) (q : AllIn Γ Γ' := by exact ALL) (hL : picks L is = L' := by rfl) (hn : is.Nodup := by decide) : ∀ fr h, St C Γ L fr h → St C Γ' L' fr h := fun _ _ s => s.pick is q hL hn
theorem lf {α : Type} {a : α} {Γ' : List AVal → Env} {L' : List AVal → Own} (g : List AVal) (is : List Nat) (q : AllIn Γ (Γ' g) := by exact ALL) (hL : picks L is = L' g := by rfl) (hn : is.Nodup := by decide) : ∀ fr h, St C Γ L fr h → a = a ∧ ∃ g, St C (Γ' g) (L' g) fr h := fun _ _ s => ⟨rfl, g, s.pick is q hL hn⟩
theorem fn {g : FuncId} {F : Func} {c : Code} {as : List TE} {rs : List RE} (run : ∀ C, C.B0 = [] → SRun C T c (entry 0 as) [] (RetP C T F.results.toList rs)) (hF : T.funcs.get g = some F := by rfl) (hb : F.body = some c := by rfl) (hn : Nat.blt F.ntmps as.length = false := by rfl) : Fun T g as rs := fun_of hF hb hn run
theorem nx {k : Nat} : (AExit.exit k) ≠ .normal := fun e => by cases e
theorem nr : AExit.ret ≠ .normal := fun e => by cases e
end
end Go.Ai.Sx

/- Runs of steps that need no word: found by trying. -/
namespace Go.Ai.Sx
structure Hold (q : Prop) : Prop where h : q
theorem xcl {p q : Prop} {β : Type} {m : Option β} {o : β} (ho : m = some o) (r : q) (h : m = some o → Hold q → p := by
 intro ho r
 first
  | (apply wcb ho; intro _; exact EF; exact ED; rfl; exact EW; exact r.h)
  | (apply wco ho; exact EA; rfl; exact EW; exact r.h)) : p := h ho ⟨r⟩
theorem iu {T : Tab} {t : TypeId} {A : Type} {R : Rep A} [h : iU T t R] : Und T t R := h.u
theorem st {p q : Prop} (r : q) (h : Hold q → p := by
 intro r
 first
  | (apply wmv; exact EM; exact EW; exact r.h)
  | (apply wsk; exact EN; exact r.h)
  | (apply wsg; exact EM; exact EW; exact r.h)
  | (apply wld; exact EO; exact EW; exact r.h)
  | (apply wfa; exact EO; exact EW; exact r.h)
  | (apply wp1; exact EO; exact EH; exact EO; exact EW; exact r.h)
  | (apply wp0; exact EO; exact EH; exact EO; exact EW; exact r.h)
  | (apply war; exact EO; exact EO; constructor; exact EW; exact r.h)
  | (apply wcm; exact EO; exact EO; constructor; exact EW; exact r.h)
  | (apply wln; exact EO; exact EW; exact r.h)
  | (apply wno; exact EO; exact EW; exact r.h)
  | (apply wex; exact EO; rfl; exact EW; exact r.h)
  | (apply wbx; exact EO; exact EW; exact r.h)
  | (apply wbs; exact EA; rfl; decide; exact EW; exact r.h)
  | (apply wlb; exact EO; exact EL; rfl; rfl; exact EW; exact ER; exact r.h)
  | (apply wle; exact EO; exact EL; exact FOk.self; exact EQ; rfl; exact EW; exact ER; exact r.h)
  | (apply wso; exact EO; exact EL; exact FOk.self; exact EO; exact EQ; rfl; rfl; exact EW; exact r.h)
  | (apply wss; exact EO; exact EL; exact EO; exact EC; rfl; rfl; exact EW; exact r.h)
  | (apply wsb; exact EO; exact EL; exact EO; rfl; rfl; exact Nat.le_of_ble_eq_true rfl; rfl; exact EW; exact r.h)
  | (apply wfr; exact EO; exact EW; exact r.h)
  | (apply wfe; exact EO; exact EW; exact r.h)
  | (apply wlo; exact EO; exact EL; exact EW; exact r.h)
  | (apply wnk; exact EO; exact EW; exact r.h)
  | (apply wnr; exact EO; exact EW; exact r.h)
  | (apply wfd; exact EO; exact EW; rfl; exact r.h)
  | (apply wsn; exact EN; exact r.h)
  | (apply wbe; exact EO; exact EO; exact EW; exact r.h)
  | (apply wbn; exact EO; exact EO; exact EW; exact r.h)
  | (apply wse; exact EO; exact EO; exact EW; exact r.h)
  | (apply wne; exact EO; exact EO; exact EW; exact r.h)
  | (apply wbu; exact EB; exact EW; exact r.h)
  | (apply wng; exact EO; exact EW; exact r.h)
  | (apply wcv; exact EO; exact EW; exact r.h)
  | (apply wmx; exact EO; exact EO; exact EW; exact r.h)
  | (apply wmn; exact EO; exact EO; exact EW; exact r.h)) : p := h ⟨r⟩
theorem sp {p q : Prop} (r : q) (h : Hold q → p := by
 intro r
 first
  | (apply wix; exact EO; exact EO; exact EQ; exact EW; exact r.h)
  | (apply wio; exact EO; exact EL; exact EO; exact EQ; exact EW; exact r.h)
  | (apply wdv; exact EO; exact EO; exact EQ; exact EW; exact r.h)
  | (apply wrm; exact EO; exact EO; exact EQ; exact EW; exact r.h)
  | (apply wsl; exact EO; exact EO; exact EQ; exact EW; exact r.h)
  | (apply wsr; exact EO; exact EO; exact EQ; exact EW; exact r.h)
  | (apply wsc; exact EO; exact ES; exact ES; exact EQ; exact EW; exact r.h)
  | (apply win; exact EO; exact EO; exact EQ; exact EW; exact r.h)
  | (apply wia; exact EO; exact EL; exact EO; exact EQ; exact EW; exact r.h)) : p := h ⟨r⟩
structure Cn (n : Nat) : Prop where t : True
theorem Cn.dec {n : Nat} (_ : Cn (n + 1)) : Cn n := ⟨trivial⟩
theorem run {p q : Prop} (n : Nat) (r : q) (h : Cn n → Hold q → p := by
 intro hn r
 repeat (replace hn := hn.dec; first | refine st ?_ | refine sp ?_ | refine wnq ?_ | refine r_seq ?_ | refine r_region ?_ | refine r_block ?_ | refine r_skipq rfl ?_ | refine r_draw [] (by kernel_rfl) ?_ | refine r_exitq rfl ?_ | refine r_labelq rfl ?_)
 exact r.h) : p := h ⟨trivial⟩ ⟨r⟩
theorem RET {p : Prop} (h : p := by
 repeat first | exact .n | (apply Rets.v; rfl) | (apply Rets.c; exact iu; rfl) | (apply Rets.r; rfl; exact EL)
 all_goals fail) : p := h
theorem w {α : Type} {m : Option α} {v : α} {p : Prop} (ho : m = some v) (h : m = some v → p := by
 intro ho
 repeat' first
  | refine st ?_
  | (apply wbd ho; intro _ _ ho; refine sp ?_)
  | (apply wcb ho; intro _; exact EF; exact ED; rfl; exact EW; intro _ _ ho)
  | (apply wco ho; exact EA; rfl; exact EW; intro _ _ ho)
  | refine wrr ?_ | refine wnq ?_ | refine r_seq ?_ | refine r_region ?_ | refine r_draw [] (by kernel_rfl) ?_ | refine r_skipq rfl ?_ | refine r_block ?_ | refine r_exitq rfl ?_
  | refine wct ho (fun _ ho => ?_) (fun _ ho => ?_)
  | (cases ho; exact s_nil (lf [] []))
  | (cases ho; exact r_exit (lf [] []))
  | (cases ho; exact r_ret (lf [] []))
  | (cases ho; exact r_skip (lf [] []))
  | (cases ho; apply r_ret; apply ret_of; exact .inr rfl; exact RET; decide)
  | (cases ho; apply s_nil; apply ret_of; exact .inl rfl; exact RET; decide)
  | refine wbr ho (fun _ ho => ?_) (fun _ ho => ?_)) : p := h ho
end Go.Ai.Sx
