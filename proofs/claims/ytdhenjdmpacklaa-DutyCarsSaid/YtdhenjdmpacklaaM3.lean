/- An abstract interpreter for the model's code: from a run of it to what a law's row says. -/
import Derived.Test.YtdhenjdmpacklaaM1
import Derived.HandedShaped
import Derived.Carry
import Derived.OpenShut
import Derived.JoinedOf
import Derived.ChangeCalls
import Derived.Test.YtdhenjdmpacklaaM2
import Derived.Test.YtdhenjdmpacklaaM0
namespace Go.Ai
open Go.RowKit
structure ARep (A : Type) where
 rel : Store → List AVal → A → Prop
 mono : ∀ z z' as x, z.le z' → rel z as x → rel z' as x
def aNil : ARep Unit := ⟨fun _ as _ => as = [], fun _ _ _ _ _ h => h⟩
def aCons {A B : Type} (R : Rep A) (S : ARep B) : ARep (A × B) :=
 ⟨fun h as x => ∃ a rest, as = a :: rest ∧ TV R h a x.1 ∧ S.rel h rest x.2, fun _ _ _ _ e h => let ⟨a, rest, h1, h2, h3⟩ := h; ⟨a, rest, h1, h2.mono e, S.mono _ _ _ _ e h3⟩⟩
def flat (P : Program) (t : TypeId) : Bool := match P.underlying t with | some (.int _) | some .bool | some (.slice _) | some (.struct _) => true | _ => false
def OpensA (P : Program) {A : Type} (ts : List TypeId) (S : ARep A) : Prop :=
 ∀ (H : Type) (enc : TypeId × Value → H) (W : World) (base : Nat) (vs : List Value) (ds : List (DataW H)) (ps : List MemPlace), 0 < W.heap.size →
  (∀ (j : Nat) t v, ts[j]? = some t → vs[j]? = some v → Value.okWide P W .any base t v) → DataW.TrodAll enc P W 0 (fun _ => true) true ts vs ds ps → ∀ (ρ : Emb) (h : AHeap), HRel W.heap.size ρ h W → NoOwn ρ h →
   ∃ ρ' h' as x, Lay W ρ h ρ' h' ∧ LRel ρ' as vs ∧ S.rel h'.st as x
section
variable {P : Program}
theorem opensA_nil : OpensA P [] aNil := by
 intro H enc W base vs ds ps _ _ hd ρ h hr hn
 obtain ⟨rfl, _⟩ := ChangeShapes.trodAll_nil hd
 exact ⟨ρ, h, [], (), ⟨.refl _, hr, hn, .refl _⟩, .nil _, rfl⟩
theorem opensA_cons {A B : Type} {t : TypeId} {ts : List TypeId} {R : Rep A} {S : ARep B} (ho : Opens P t R) (hf : flat P t = true) (hs : OpensA P ts S) : OpensA P (t :: ts) (aCons R S) := by
 intro H enc W base vs ds ps hpos hok hd ρ h hr hn
 obtain ⟨v, vs', d, ds', p, q, rfl, rfl, rfl, h1, h2⟩ := ChangeShapes.trodAll_cons hd
 obtain ⟨ρ1, h1', a, x, l1, r1, q1⟩ := opens_arg ho hpos (hok 0 t v rfl rfl) hf h1 hr hn
 obtain ⟨ρ2, h2', as, y, l2, r2, q2⟩ := hs H enc W base vs' ds' q hpos (fun j t' v' ht hv => hok (j + 1) t' v' (by simpa using ht) (by simpa using hv)) h2 ρ1 h1' l1.heap l1.none
 exact ⟨ρ2, h2', a :: as, (x, y), l1.trans l2, .cons (r1.mono l2.ext) r2, a, as, rfl, q1.mono l2.grow.st, q2⟩
theorem trodAll_below {H : Type} {enc : TypeId × Value → H} (hl : laidOutB P = true) {W W' : World} (hb : Below W.heap.size W W') : ∀ {ts : List TypeId} {vs : List Value} {ds : List (DataW H)} {ps : List MemPlace}, (∀ t ∈ ts, P.readableRec t = true ∧ t < P.types.size) →
    DataW.TrodAll enc P W 0 (fun _ => true) true ts vs ds ps → DataW.TrodAll enc P W' 0 (fun b => decide (b < W.heap.size)) true ts vs ds ps
  | [], [], [], _, _, h => h
  | t :: ts, v :: vs, d :: ds, ps, hts, ⟨p, q, h1, h2, e⟩ => by
    refine ⟨p, q, ?_, trodAll_below hl hb (fun t ht => hts t (List.mem_cons_of_mem _ ht)) h2, e⟩
    obtain ⟨hr, hrow⟩ := hts t (List.mem_cons_self ..)
    refine Below.trod hl hr hrow h1 hb ?_
    have h3 : DataW.TrodAll enc P W 0 (fun _ => true) true [t] [v] [d] p := ⟨p, [], h1, rfl, by simp⟩
    exact DataW.TrodAll.lt h3
  | [], _ :: _, _, _, _, h => h.elim
  | [], [], _ :: _, _, _, h => h.elim
  | _ :: _, [], _, _, _, h => h.elim
  | _ :: _, _ :: _, [], _, _, h => h.elim
end
theorem law_contract {T : Tab} {C : Checked} (ok : T.Ok C.prog) {f : FuncId} {fn : Func} {s : ChangeSpec} {A : Type} {S : ARep A} {tb : TypeId}
    (hl : laidOutB C.prog = true) (hvars : s.vars = []) (hrt : fn.resultTypes = #[tb]) (hb : C.prog.underlying tb = some .bool) (hts : ∀ t ∈ fn.params.toList, C.prog.readableRec t = true ∧ t < C.prog.types.size)
    (hfn : ∀ (H : Type) (ds : List (DataW H)), ds.length = fn.params.size → s.fn H ds = { results := [.lit (.bool true)], args := ds })
    (ho : OpensA C.prog fn.params.toList S)
    (law : ∀ (h : AHeap) (as : List AVal) (x : A), S.rel h.st as x → h.wm ≤ h.next → ∃ n h', acallFn T (aexec T n) f as h = some (.ret (.bool true), h'))
    {H : Type} {enc : TypeId × Value → H} {W : World} {base : Nat} {args : Array Value} {ds gs : List (DataW H)} {before : List MemPlace} (hpos : 0 < W.heap.size)
    (hval : ∀ (j : Nat) t v, fn.params[j]? = some t → args[j]? = some v → Value.okWide C.prog W .any base t v)
    (hW : DataW.Whole enc C.prog fn.params.toList s.vars false W args.toList ds gs before) :
    Calls C.prog f args W fun e W' => ∃ v, e = .returned v ∧ s.post enc C.prog fn false true false false W args v W' := by
  have hW0 := hW
  obtain ⟨p, q, hA, hV, rfl, _, _⟩ := hW
  have hr0 : HRel W.heap.size (fun _ => none) ⟨.leaf, 0, 0⟩ W := ⟨⟨fun _ _ h => (nomatch h), fun _ _ h => (nomatch h), fun _ _ _ _ h => (nomatch h), Nat.le_refl _⟩, fun _ _ h => (nomatch h)⟩
  obtain ⟨ρ, h, as, x, l, r, hx⟩ := ho H enc W base args.toList ds p hpos (fun j t v ht hv => hval j t v (by simpa using ht) (by simpa using hv)) hA _ _ hr0 (fun _ _ h => (nomatch h))
  obtain ⟨n, h', hrun⟩ := law h as x hx (l.grow.wm (Nat.le_refl 0))
  refine (acallFn_sound ok hrun r l.heap).mono fun e W' he => ?_
  obtain ⟨ρ', hr', ht, hend⟩ := he
  rcases hend with ⟨v, v', hv, rfl, hrel⟩ | ⟨v, v', hv, _⟩
  case inr => cases hv
  cases hv
  cases hrel
  refine ⟨_, rfl, ?_⟩
  have hbelow : Below W.heap.size W W' := ⟨ht.os, ht.tape, ht.output, ht.size, fun k hk => ht.frame k hk (fun b l' hb ho' => absurd ho' (l.none b l' hb))⟩
  have hgs : gs = [] ∧ q = [] := by
    rw [hvars] at hV
    cases gs with
    | nil => exact ⟨rfl, hV⟩
    | cons _ _ => exact hV.elim
  obtain ⟨rfl, rfl⟩ := hgs
  have hlen := trodAll_length hA
  have hres : s.fn H (ds ++ []) = { results := [.lit (.bool true)], args := ds } := by rw [List.append_nil]; exact hfn H ds (by rw [hlen.2]; simp)
  refine ⟨ds, [], p ++ [], [], p, [], hW0, ?_, ?_, ?_, hbelow.frame _, fun q => by cases q⟩
  · rw [hres, hrt]
    exact ⟨[], [], RowKit.shut_bool hb true, rfl, rfl⟩
  · rw [hres]; exact trodAll_below hl hbelow hts hA
  · rw [hres, hvars]; exact rfl
end Go.Ai

/- From a walk through a law to what its row says. -/
namespace Go.Ai.Sx
def AOk {A : Type} (S : ARep A) (ts : A → List TE) : Prop := ∀ z vs x, S.rel z vs x → okAll z (ts x) vs
theorem aok_nil : AOk aNil (fun _ => []) := fun z vs x h => by
 simp only [okAll]; exact h
theorem aok_cons {A B : Type} {R : Rep A} {S : ARep B} {ts : B → List TE} (h : AOk S ts) : AOk (aCons R S) (fun x => .val R x.1 :: ts x.2) := fun z vs x hr => by
 obtain ⟨a, rest, rfl, h1, h2⟩ := hr
 simp only [okAll, TE.ok]
 exact ⟨a, rest, rfl, h1, h _ _ _ h2⟩
theorem law_run {T : Tab} {g : FuncId} {A : Type} {S : ARep A} {ts : A → List TE} (ha : AOk S ts) (hf : ∀ z vs x, S.rel z vs x → Fun T g (ts x) [.val rBool true]) : ∀ (h : AHeap) (as : List AVal) (x : A), S.rel h.st as x → h.wm ≤ h.next → ∃ n h', acallFn T (aexec T n) g as h = some (.ret (.bool true), h') := by
 intro h as x hr hwm
 obtain ⟨n, r, h', e, us, z', rfl, hl, _, _, _, _, hok, _⟩ := hf _ _ x hr h.st h as (full_sub h) hwm (ha _ _ _ hr)
 match us, hl with
 | [u], _ =>
  simp only [tes, okAll, TE.ok] at hok
  obtain ⟨v, vs, q, h1, _⟩ := hok
  cases q
  have := tv_bool h1
  subst this
  exact ⟨n, h', e⟩
end Go.Ai.Sx

/- An abstract interpreter for the model's code: that a program's tables agree with it. -/
namespace Go.Ai
def Tr.toList {α : Type} : Tr α → List (Nat × α)
 | .leaf => []
 | .node v l r => (match v with | some x => [(0, x)] | none => []) ++ (l.toList.map fun p => (2 * p.1 + 1, p.2)) ++ (r.toList.map fun p => (2 * p.1 + 2, p.2))
theorem Tr.mem_toList {α : Type} : ∀ (t : Tr α) (n : Nat) (x : α), t.get n = some x → (n, x) ∈ t.toList
 | .leaf, n, x, h => by simp [Tr.get] at h
 | .node v l r, 0, x, h => by
  have h : v = some x := h
  subst h
  simp [Tr.toList]
 | .node v l r, m + 1, x, h => by
  rw [Tr.get_succ] at h
  simp only [Tr.toList, List.mem_append, List.mem_map]
  split at h
  ·rename_i hm
   exact .inl (.inr ⟨_, Tr.mem_toList l _ _ h, by simp; omega⟩)
  ·exact .inr ⟨_, Tr.mem_toList r _ _ h, by simp; omega⟩
def AllP {α : Type} (Q : Nat → α → Prop) : List (Nat × α) → Prop
 | [] => True
 | p :: l => Q p.1 p.2 ∧ AllP Q l
theorem AllP.get {α : Type} {Q : Nat → α → Prop} : ∀ {l : List (Nat × α)}, AllP Q l → ∀ n x, (n, x) ∈ l → Q n x
 | _ :: _, h, n, x, hm => by
  rcases List.mem_cons.1 hm with q | q
  ·cases q; exact h.1
  ·exact AllP.get h.2 n x q
def TypeOk (P : Program) (t : Nat) (i : TInfo) : Prop :=
 P.underlying t = some i.desc ∧ ∃ j, P.info? t = some j ∧ j.size = i.size ∧ j.bytes = i.bytes ∧
  (∀ z, i.zero = some z → ∃ zv, j.zero = some zv ∧ ofVal zv = some z) ∧ (i.stood = false → P.stoodInHeld t = false) ∧ (i.eqg = false → P.eqGuardType P.depth t = false)
theorem typeOk_of {P : Program} {t : Nat} {j ju : TypeInfo} (h1 : P.info? t = some j) (h2 : P.underlying t = some ju.desc) :
    TypeOk P t { desc := ju.desc, size := j.size, bytes := j.bytes, zero := j.zero.bind ofVal, stood := P.stoodInHeld t, eqg := P.eqGuardType P.depth t } := by
  refine ⟨h2, j, h1, rfl, rfl, fun z hz => ?_, id, id⟩
  exact Option.bind_eq_some_iff.1 hz
def FuncOk (P : Program) (f : Nat) (F : Func) : Prop :=
 P.funcs[f]? = some F ∧ (F.name == "runtime.NumGoroutine") = false ∧ (∀ c, F.body = some c → codeOk F.ntmps c = true)
def bodyOk (F : Func) : Bool := match F.body with | some c => codeOk F.ntmps c | none => true
theorem funcOk_of {P : Program} {f : Nat} {F : Func} (h1 : P.funcs[f]? = some F) (h2 : (F.name == "runtime.NumGoroutine") = false) (h3 : bodyOk F = true) : FuncOk P f F := by
 refine ⟨h1, h2, fun c hc => ?_⟩
 unfold bodyOk at h3
 rw [hc] at h3
 exact h3
theorem tabOk_of {P : Program} {T : Tab} (h1 : AllP (TypeOk P) T.types.toList) (h2 : AllP (FuncOk P) T.funcs.toList) (h3 : P.follows .mixedOrders = true) (h4 : T.consts = .leaf) : T.Ok P :=
 ⟨fun t i h => h1.get t i (Tr.mem_toList _ _ _ h), fun f F h => h2.get f F (Tr.mem_toList _ _ _ h), h3, fun g v h => by rw [h4] at h; cases h⟩
end Go.Ai
