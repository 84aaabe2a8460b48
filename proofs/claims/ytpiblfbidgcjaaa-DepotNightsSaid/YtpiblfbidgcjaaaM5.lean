/- An abstract interpreter for the model's code: that a program's tables agree with it. -/
import Derived.Test.YtpiblfbidgcjaaaM0
namespace Go.Ai
def Tr.toList {α : Type} : Tr α → List (Nat × α)
 | .leaf => []
 | .node v l r => (match v with | some x => [(0, x)] | none => []) ++ (l.toList.map fun p => (2 * p.1 + 1, p.2)) ++ (r.toList.map fun p => (2 * p.1 + 2, p.2))
theorem Tr.mem_toList {α : Type} : ∀ (t : Tr α) (n : Nat) (x : α), t.get n = some x → (n, x) ∈ t.toList
 | .leaf, n, x, h => by simp [Tr.get] at h
 | .node v l r, 0, x, h => by
  have h : v = some x := h
  subst h
  simp [Tr.toList]
 | .node v l r, m + 1, x, h => by
  rw [Tr.get_succ] at h
  simp only [Tr.toList, List.mem_append, List.mem_map]
  split at h
  ·rename_i hm
   exact .inl (.inr ⟨_, Tr.mem_toList l _ _ h, by simp; omega⟩)
  ·exact .inr ⟨_, Tr.mem_toList r _ _ h, by simp; omega⟩
def AllP {α : Type} (Q : Nat → α → Prop) : List (Nat × α) → Prop
 | [] => True
 | p :: l => Q p.1 p.2 ∧ AllP Q l
theorem AllP.get {α : Type} {Q : Nat → α → Prop} : ∀ {l : List (Nat × α)}, AllP Q l → ∀ n x, (n, x) ∈ l → Q n x
 | _ :: _, h, n, x, hm => by
  rcases List.mem_cons.1 hm with q | q
  ·cases q; exact h.1
  ·exact AllP.get h.2 n x q
def TypeOk (P : Program) (t : Nat) (i : TInfo) : Prop :=
 P.underlying t = some i.desc ∧ ∃ j, P.info? t = some j ∧ j.size = i.size ∧ j.bytes = i.bytes ∧
  (∀ z, i.zero = some z → ∃ zv, j.zero = some zv ∧ ofVal zv = some z) ∧ (i.stood = false → P.stoodInHeld t = false) ∧ (i.eqg = false → P.eqGuardType P.depth t = false)
theorem typeOk_of {P : Program} {t : Nat} {j ju : TypeInfo} (h1 : P.info? t = some j) (h2 : P.underlying t = some ju.desc) :
    TypeOk P t { desc := ju.desc, size := j.size, bytes := j.bytes, zero := j.zero.bind ofVal, stood := P.stoodInHeld t, eqg := P.eqGuardType P.depth t } := by
  refine ⟨h2, j, h1, rfl, rfl, fun z hz => ?_, id, id⟩
  exact Option.bind_eq_some_iff.1 hz
def FuncOk (P : Program) (f : Nat) (F : Func) : Prop :=
 P.funcs[f]? = some F ∧ (F.name == "runtime.NumGoroutine") = false ∧ (∀ c, F.body = some c → codeOk F.ntmps c = true)
def bodyOk (F : Func) : Bool := match F.body with | some c => codeOk F.ntmps c | none => true
theorem funcOk_of {P : Program} {f : Nat} {F : Func} (h1 : P.funcs[f]? = some F) (h2 : (F.name == "runtime.NumGoroutine") = false) (h3 : bodyOk F = true) : FuncOk P f F := by
 refine ⟨h1, h2, fun c hc => ?_⟩
 unfold bodyOk at h3
 rw [hc] at h3
 exact h3
theorem tabOk_of {P : Program} {T : Tab} (h1 : AllP (TypeOk P) T.types.toList) (h2 : AllP (FuncOk P) T.funcs.toList) (h3 : P.follows .mixedOrders = true) (h4 : T.consts = .leaf) : T.Ok P :=
 ⟨fun t i h => h1.get t i (Tr.mem_toList _ _ _ h), fun f F h => h2.get f F (Tr.mem_toList _ _ _ h), h3, fun g v h => by rw [h4] at h; cases h⟩
end Go.Ai
