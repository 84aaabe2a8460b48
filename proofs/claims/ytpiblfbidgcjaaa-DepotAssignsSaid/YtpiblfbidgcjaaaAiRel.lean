/- An abstract interpreter for the model's code: how its values, frames and heaps stand for the model's. -/
import Derived.Test.YtpiblfbidgcjaaaAiCore
import GoSem.Dispatch
import Derived.Calls
namespace Go.Ai

theorem even_beq (a : Nat) : Nat.beq (Nat.mod a 2) 0 = decide (a % 2 = 0) := by
  show Nat.beq (a % 2) 0 = _
  cases h : a % 2 with
  | zero => rfl
  | succ n => simp [Nat.beq]

theorem Tr.get_succ {α : Type} (v : Option α) (l r : Tr α) (m : Nat) : (Tr.node v l r).get (m + 1) = if m % 2 = 0 then l.get (m / 2) else r.get (m / 2) := by
  show (bif Nat.beq (Nat.mod m 2) 0 then l.get (Nat.div m 2) else r.get (Nat.div m 2)) = _
  rw [even_beq]
  by_cases h : m % 2 = 0 <;> simp [h] <;> rfl

theorem Tr.put_leaf {α : Type} (k n : Nat) (x : α) : Tr.put (k + 1) .leaf (n + 1) x = if n % 2 = 0 then .node none (Tr.put k .leaf (n / 2) x) .leaf else .node none .leaf (Tr.put k .leaf (n / 2) x) := by
  show (bif Nat.beq (Nat.mod n 2) 0 then Tr.node none (Tr.put k .leaf (Nat.div n 2) x) .leaf else .node none .leaf (Tr.put k .leaf (Nat.div n 2) x)) = _
  rw [even_beq]
  by_cases h : n % 2 = 0 <;> simp [h] <;> rfl

theorem Tr.put_node {α : Type} (k : Nat) (v : Option α) (l r : Tr α) (n : Nat) (x : α) : Tr.put (k + 1) (.node v l r) (n + 1) x = if n % 2 = 0 then .node v (Tr.put k l (n / 2) x) r else .node v l (Tr.put k r (n / 2) x) := by
  show (bif Nat.beq (Nat.mod n 2) 0 then Tr.node v (Tr.put k l (Nat.div n 2) x) r else .node v l (Tr.put k r (Nat.div n 2) x)) = _
  rw [even_beq]
  by_cases h : n % 2 = 0 <;> simp [h] <;> rfl

theorem Tr.get_put {α : Type} : ∀ (k : Nat) (t : Tr α) (n : Nat) (x : α) (m : Nat), n < k → (Tr.put k t n x).get m = if m = n then some x else t.get m
  | 0, _, n, _, _, h => absurd h (Nat.not_lt_zero n)
  | k + 1, .leaf, 0, x, m, _ => by cases m <;> simp [Tr.put, Tr.get]
  | k + 1, .leaf, n + 1, x, m, h => by
    have ih := fun m' => Tr.get_put k .leaf (n / 2) x m' (by omega)
    rw [Tr.put_leaf]
    cases m with
    | zero => split <;> simp [Tr.get]
    | succ m =>
      by_cases e : m = n
      · subst e
        split <;> rw [Tr.get_succ] <;> simp_all
      · rw [if_neg (show ¬ (m + 1 = n + 1) by omega)]
        split <;> rw [Tr.get_succ] <;> split <;> simp_all [Tr.get] <;> omega
  | k + 1, .node v l r, 0, x, m, _ => by cases m <;> simp [Tr.put, Tr.get]
  | k + 1, .node v l r, n + 1, x, m, h => by
    have hlt : n / 2 < k := by omega
    have ihl := fun m' => Tr.get_put k l (n / 2) x m' hlt
    have ihr := fun m' => Tr.get_put k r (n / 2) x m' hlt
    rw [Tr.put_node]
    cases m with
    | zero => split <;> simp [Tr.get]
    | succ m =>
      by_cases e : m = n
      · subst e
        split <;> rw [Tr.get_succ] <;> simp_all
      · rw [if_neg (show ¬ (m + 1 = n + 1) by omega)]
        split <;> rw [Tr.get_succ, Tr.get_succ] <;> split <;> simp_all <;> omega

theorem Tr.get_set {α : Type} (t : Tr α) (n : Nat) (x : α) (m : Nat) : (t.set n x).get m = if m = n then some x else t.get m :=
  Tr.get_put (n + 1) t n x m (Nat.lt_succ_self n)

theorem AFrame.ev_set (fr : AFrame) (n : Nat) (x : AVal) (m : Nat) : AFrame.ev (Tr.set fr n x) m = if m = n then x else fr.ev m := by
  unfold AFrame.ev
  rw [Tr.get_set]
  split <;> rfl

theorem AHeap.get_set (h : AHeap) (b : Nat) (x : ABlk) (b' : Nat) : (h.set b x).get b' = if b' = b then some x else h.get b' := Tr.get_set _ _ _ _
theorem AHeap.get_push (h : AHeap) (x : ABlk) (b' : Nat) : (h.push x).get b' = if b' = h.next then some x else h.get b' := Tr.get_set _ _ _ _
theorem AHeap.next_set (h : AHeap) (b : Nat) (x : ABlk) : (h.set b x).next = h.next := rfl
theorem AHeap.next_push (h : AHeap) (x : ABlk) : (h.push x).next = h.next + 1 := rfl

/- where an abstract block lies: the block, the first cell, and how many cells the block has -/
structure Loc where
  c : Nat
  o : Nat
  n : Nat

abbrev Emb := Nat → Option Loc

def Ext (ρ ρ' : Emb) : Prop := ∀ b l, ρ b = some l → ρ' b = some l

theorem Ext.refl (ρ : Emb) : Ext ρ ρ := fun _ _ h => h
theorem Ext.trans {ρ ρ' ρ'' : Emb} (h : Ext ρ ρ') (h' : Ext ρ' ρ'') : Ext ρ ρ'' := fun b l e => h' b l (h b l e)

def FnRel (ρ : Emb) (f f' : Fn) : Prop :=
  (∃ l l' : Nat, f = .yield l ∧ f' = .yield l' ∧ ∃ loc, ρ l = some loc ∧ loc.c = l') ∨ (∃ g, f = .func g ∧ f' = .func g)

inductive VRel (ρ : Emb) : AVal → Value → Prop where
  | undef (v : Value) : VRel ρ .undef v
  | bool (b : Bool) : VRel ρ (.bool b) (.bool b)
  | int (k : IntKind) (n : Int) : VRel ρ (.int k n) (.int k n)
  | str (s : ByteArray) : VRel ρ (.str s) (.string s)
  | ptr (b off : Nat) (l : Loc) (h : ρ b = some l) : VRel ρ (.ptr b off) (.pointer (some ⟨l.c, l.o + off, none⟩))
  | nilptr : VRel ρ .nilptr (.pointer none)
  | slice (b off len es : Nat) (cap : Option Nat) (l : Loc) (a : Addr) (ccap : Nat) (h : ρ b = some l) (hlen : len ≤ ccap) (hcap : ∀ k, cap = some k → ccap = k)
      (hoff : ccap = 0 ∨ (a = ⟨l.c, l.o + off, none⟩ ∧ l.o + off + ccap * es ≤ l.n)) : VRel ρ (.slice b off len es cap) (.slice (some a) len ccap)
  | nilslice : VRel ρ .nilslice (.slice none 0 0)
  | map (r : Nat) (l : Loc) (h : ρ r = some l) : VRel ρ (.map r) (.map (some l.c))
  | nilmap : VRel ρ .nilmap (.map none)
  | func (fn fn' : Fn) (f c : List AVal) (f' c' : Array Value) (hfn : FnRel ρ fn fn') (hf : f.length = f'.size) (hc : c.length = c'.size)
      (hfs : ∀ (i : Nat) (v : AVal) (v' : Value), f[i]? = some v → f'[i]? = some v' → VRel ρ v v') (hcs : ∀ (i : Nat) (v : AVal) (v' : Value), c[i]? = some v → c'[i]? = some v' → VRel ρ v v') :
      VRel ρ (.func fn f c) (.func fn' f' c')
  | nilfunc : VRel ρ .nilfunc .nilFunc
  | iface (t : TypeId) (v : AVal) (v' : Value) (h : VRel ρ v v') : VRel ρ (.iface t v) (.iface t v')
  | niliface : VRel ρ .niliface .nilIface
  | agg (cs : List AVal) (cs' : Array Value) (hl : cs.length = cs'.size) (hs : ∀ (i : Nat) (v : AVal) (v' : Value), cs[i]? = some v → cs'[i]? = some v' → VRel ρ v v') : VRel ρ (.agg cs) (.agg cs')
  | tuple (cs : List AVal) (cs' : Array Value) (hl : cs.length = cs'.size) (hs : ∀ (i : Nat) (v : AVal) (v' : Value), cs[i]? = some v → cs'[i]? = some v' → VRel ρ v v') : VRel ρ (.tuple cs) (.tuple cs')

theorem FnRel.mono {ρ ρ' : Emb} {f f' : Fn} (h : FnRel ρ f f') (e : Ext ρ ρ') : FnRel ρ' f f' := by
  rcases h with ⟨l, l', rfl, rfl, loc, hl, hc⟩ | ⟨g, rfl, rfl⟩
  · exact .inl ⟨l, l', rfl, rfl, loc, e _ _ hl, hc⟩
  · exact .inr ⟨g, rfl, rfl⟩

theorem VRel.mono {ρ ρ' : Emb} {v : AVal} {v' : Value} (h : VRel ρ v v') (e : Ext ρ ρ') : VRel ρ' v v' := by
  induction h with
  | undef v => exact .undef v
  | bool b => exact .bool b
  | int k n => exact .int k n
  | str s => exact .str s
  | ptr b off l h => exact .ptr b off l (e _ _ h)
  | nilptr => exact .nilptr
  | slice b off len es cap l a ccap h hlen hcap hoff => exact .slice b off len es cap l a ccap (e _ _ h) hlen hcap hoff
  | nilslice => exact .nilslice
  | map r l h => exact .map r l (e _ _ h)
  | nilmap => exact .nilmap
  | func fn fn' f c f' c' hfn hf hc _ _ ihf ihc => exact .func fn fn' f c f' c' (hfn.mono e) hf hc ihf ihc
  | nilfunc => exact .nilfunc
  | iface t v v' _ ih => exact .iface t v v' ih
  | niliface => exact .niliface
  | agg cs cs' hl _ ih => exact .agg cs cs' hl ih
  | tuple cs cs' hl _ ih => exact .tuple cs cs' hl ih

/- lists of values -/
def LRel (ρ : Emb) (vs : List AVal) (vs' : List Value) : Prop :=
  vs.length = vs'.length ∧ ∀ (i : Nat) (v : AVal) (v' : Value), vs[i]? = some v → vs'[i]? = some v' → VRel ρ v v'

theorem LRel.nil (ρ : Emb) : LRel ρ [] [] := ⟨rfl, by simp⟩
theorem LRel.cons {ρ : Emb} {v : AVal} {v' : Value} {vs : List AVal} {vs' : List Value} (h : VRel ρ v v') (hs : LRel ρ vs vs') : LRel ρ (v :: vs) (v' :: vs') := by
  refine ⟨by simp [hs.1], fun i u u' hu hu' => ?_⟩
  cases i with
  | zero => simp at hu hu'; subst hu hu'; exact h
  | succ i => simp at hu hu'; exact hs.2 i u u' hu hu'
theorem LRel.head {ρ : Emb} {v : AVal} {v' : Value} {vs : List AVal} {vs' : List Value} (h : LRel ρ (v :: vs) (v' :: vs')) : VRel ρ v v' := h.2 0 v v' rfl rfl
theorem LRel.tail {ρ : Emb} {v : AVal} {v' : Value} {vs : List AVal} {vs' : List Value} (h : LRel ρ (v :: vs) (v' :: vs')) : LRel ρ vs vs' :=
  ⟨by simpa using h.1, fun i u u' hu hu' => h.2 (i + 1) u u' (by simpa using hu) (by simpa using hu')⟩
theorem LRel.cons_inv {ρ : Emb} {v : AVal} {vs : List AVal} {us' : List Value} (h : LRel ρ (v :: vs) us') : ∃ v' vs', us' = v' :: vs' ∧ VRel ρ v v' ∧ LRel ρ vs vs' := by
  cases us' with
  | nil => have := h.1; simp at this
  | cons v' vs' => exact ⟨v', vs', rfl, h.head, h.tail⟩
theorem LRel.nil_inv {ρ : Emb} {us' : List Value} (h : LRel ρ [] us') : us' = [] := by
  have := h.1; simp at this; exact List.eq_nil_of_length_eq_zero this.symm
theorem LRel.mono {ρ ρ' : Emb} {vs : List AVal} {vs' : List Value} (h : LRel ρ vs vs') (e : Ext ρ ρ') : LRel ρ' vs vs' :=
  ⟨h.1, fun i v v' hv hv' => (h.2 i v v' hv hv').mono e⟩
theorem LRel.append {ρ : Emb} {vs us : List AVal} {vs' us' : List Value} (h : LRel ρ vs vs') (h' : LRel ρ us us') : LRel ρ (vs ++ us) (vs' ++ us') := by
  refine ⟨by simp [h.1, h'.1], fun i v v' hv hv' => ?_⟩
  rw [List.getElem?_append] at hv hv'
  rw [h.1] at hv
  split at hv
  · rename_i hlt
    rw [if_pos hlt] at hv'
    exact h.2 _ _ _ hv hv'
  · rename_i hlt
    rw [if_neg hlt] at hv'
    exact h'.2 _ _ _ hv hv'
theorem LRel.take {ρ : Emb} {vs : List AVal} {vs' : List Value} (h : LRel ρ vs vs') (n : Nat) : LRel ρ (vs.take n) (vs'.take n) := by
  refine ⟨by simp [h.1], fun i v v' hv hv' => ?_⟩
  rw [List.getElem?_take] at hv hv'
  split at hv
  · rename_i hlt; rw [if_pos hlt] at hv'; exact h.2 _ _ _ hv hv'
  · cases hv
theorem LRel.drop {ρ : Emb} {vs : List AVal} {vs' : List Value} (h : LRel ρ vs vs') (n : Nat) : LRel ρ (vs.drop n) (vs'.drop n) := by
  refine ⟨by simp [h.1], fun i v v' hv hv' => ?_⟩
  rw [List.getElem?_drop] at hv hv'
  exact h.2 _ _ _ hv hv'
theorem LRel.at {ρ : Emb} {vs : List AVal} {vs' : List Value} (h : LRel ρ vs vs') {i : Nat} {v : AVal} (hv : vs[i]? = some v) : ∃ v', vs'[i]? = some v' ∧ VRel ρ v v' := by
  have hi : i < vs'.length := by rw [← h.1]; exact (List.getElem?_eq_some_iff.1 hv).1
  exact ⟨vs'[i], List.getElem?_eq_getElem hi, h.2 i v _ hv (List.getElem?_eq_getElem hi)⟩

theorem VRel.agg' {ρ : Emb} {cs : List AVal} {cs' : List Value} (h : LRel ρ cs cs') : VRel ρ (.agg cs) (.agg cs'.toArray) :=
  .agg cs cs'.toArray (by simp [h.1]) fun i v v' hv hv' => h.2 i v v' hv (by simpa using hv')
theorem VRel.tuple' {ρ : Emb} {cs : List AVal} {cs' : List Value} (h : LRel ρ cs cs') : VRel ρ (.tuple cs) (.tuple cs'.toArray) :=
  .tuple cs cs'.toArray (by simp [h.1]) fun i v v' hv hv' => h.2 i v v' hv (by simpa using hv')
theorem VRel.agg_inv {ρ : Emb} {cs : List AVal} {x : Value} (h : VRel ρ (.agg cs) x) : ∃ cs', x = .agg cs' ∧ LRel ρ cs cs'.toList := by
  cases h with
  | agg _ cs' hl hs => exact ⟨cs', rfl, by simpa using hl, fun i v v' hv hv' => hs i v v' hv (by simpa using hv')⟩
theorem VRel.tuple_inv {ρ : Emb} {cs : List AVal} {x : Value} (h : VRel ρ (.tuple cs) x) : ∃ cs', x = .tuple cs' ∧ LRel ρ cs cs'.toList := by
  cases h with
  | tuple _ cs' hl hs => exact ⟨cs', rfl, by simpa using hl, fun i v v' hv hv' => hs i v v' hv (by simpa using hv')⟩

/- a value and its cells -/
theorem VRel.cells {ρ : Emb} {v : AVal} {v' : Value} (h : VRel ρ v v') (hu : v ≠ .undef) : LRel ρ v.cells v'.cells.toList := by
  cases h with
  | undef => exact absurd rfl hu
  | agg cs cs' hl hs => exact ⟨by simpa [AVal.cells, Value.cells] using hl, fun i v v' hv hv' => hs i v v' hv (by simpa [Value.cells] using hv')⟩
  | slice b off len es cap l a ccap h hlen hcap hoff => exact .cons (.slice b off len es cap l a ccap h hlen hcap hoff) (.nil _)
  | func fn fn' f c f' c' hfn hf hc hfs hcs => exact .cons (.func fn fn' f c f' c' hfn hf hc hfs hcs) (.nil _)
  | tuple cs cs' hl hs => exact .cons (.tuple cs cs' hl hs) (.nil _)
  | bool b => exact .cons (.bool b) (.nil _)
  | int k n => exact .cons (.int k n) (.nil _)
  | str s => exact .cons (.str s) (.nil _)
  | ptr b off l h => exact .cons (.ptr b off l h) (.nil _)
  | nilptr => exact .cons .nilptr (.nil _)
  | nilslice => exact .cons .nilslice (.nil _)
  | map r l h => exact .cons (.map r l h) (.nil _)
  | nilmap => exact .cons .nilmap (.nil _)
  | nilfunc => exact .cons .nilfunc (.nil _)
  | iface t v v' h => exact .cons (.iface t v v' h) (.nil _)
  | niliface => exact .cons .niliface (.nil _)

theorem VRel.one {ρ : Emb} {v : AVal} {v' : Value} (h : VRel ρ v v') (hu : v.one = true) : (match v' with | .agg _ | .tuple _ => false | _ => true) = true := by
  cases h <;> first | rfl | (simp [AVal.one] at hu)

/- constants -/
theorem ofCell_rel (ρ : Emb) (v : Value) (x : AVal) (h : ofCell v = some x) : VRel ρ x v := by
  unfold ofCell at h
  split at h
  · cases h; exact .bool _
  · cases h; exact .int _ _
  · cases h; exact .str _
  · cases h; exact .nilptr
  · split at h
    · rename_i hlc; cases h; obtain ⟨rfl, rfl⟩ := hlc; exact .nilslice
    · cases h
  · cases h; exact .nilmap
  · cases h; exact .nilfunc
  · cases h; exact .niliface
  · split at h
    · rename_i f fi ca hlc
      cases h
      exact .func _ _ [] [] fi ca (.inr ⟨f, rfl, rfl⟩) (by simp [hlc.1]) (by simp [hlc.2]) (by simp) (by simp)
    · cases h
  · cases h

theorem ofCells_rel (ρ : Emb) : ∀ (vs : List Value) (xs : List AVal), ofCells vs = some xs → LRel ρ xs vs
  | [], xs, h => by simp [ofCells] at h; subst h; exact .nil _
  | v :: vs, xs, h => by
    simp only [ofCells] at h
    split at h
    · rename_i x xs' hx hxs
      cases h
      exact .cons (ofCell_rel ρ v x hx) (ofCells_rel ρ vs xs' hxs)
    · cases h

theorem ofVal_rel (ρ : Emb) (v : Value) (x : AVal) (h : ofVal v = some x) : VRel ρ x v := by
  unfold ofVal at h
  split at h
  · rename_i cs
    cases hc : ofCells cs.toList with
    | none => rw [hc] at h; cases h
    | some xs =>
      rw [hc] at h
      cases h
      exact .agg' (cs' := cs.toList) (ofCells_rel ρ _ _ hc)
  · exact ofCell_rel ρ v x h

/- frames -/
def FRel (ρ : Emb) (fr : AFrame) (tmps : Array Value) : Prop := ∀ t, VRel ρ (fr.ev t) (tmps.getD t undef)

theorem FRel.mono {ρ ρ' : Emb} {fr : AFrame} {tmps : Array Value} (h : FRel ρ fr tmps) (e : Ext ρ ρ') : FRel ρ' fr tmps := fun t => (h t).mono e

theorem FRel.put {ρ : Emb} {fr : AFrame} {tmps : Array Value} {d : Nat} {v : AVal} {v' : Value} (h : FRel ρ fr tmps) (hd : d < tmps.size) (hv : VRel ρ v v') :
    FRel ρ (Tr.set fr d v) (tmps.setIfInBounds d v') := by
  intro t
  rw [AFrame.ev_set]
  by_cases ht : t = d
  · subst ht
    simp [Array.getD, hd]
    exact hv
  · rw [if_neg ht]
    have := h t
    rw [show (tmps.setIfInBounds d v').getD t undef = tmps.getD t undef from by
      simp [Array.getD_eq_getD_getElem?, Array.getElem?_setIfInBounds, show ¬ d = t from fun e => ht e.symm]]
    exact this

/- an abstract block that the run itself has made: nobody else's cells lie there -/
def Owns (h : AHeap) (b : Nat) : Prop :=
  match h.get b with
  | some (.arr _ false) => True
  | some (.mp _) => True
  | some (.loop _) => True
  | _ => False

def Alive (h : AHeap) (b : Nat) : Prop :=
  match h.get b with
  | some .dead => False
  | some _ => True
  | none => False

/- is every slot that some code writes below n? and no operation that the rules don't serve -/
def dstOk (n : Nat) (o : Oper) : Bool := match o.dst with | some d => d < n | none => true
def edgesOk : List Oper → Nat → Bool
  | [], _ => true
  | o :: os, i => o.after.all (fun e => !Region.binds .any e || e.on < i) && edgesOk os (i + 1)

/- what an operation looks at and writes of the frame -/
def slotsOf : Operand → List Nat
  | .tmp t => [t]
  | _ => []
def looks (ops : List Oper) (o : Oper) : List Nat :=
  o.op.operands.toList.flatMap slotsOf ++ (match o.guard with | some (j, _) => (match (ops[j]?).bind (fun (o : Oper) => o.dst) with | some d => [d] | none => []) | none => [])
def slotsApart (ops : List Oper) (a b : Oper) : Bool :=
  (match a.dst with | some d => !(looks ops b).contains d && (match b.dst with | some d' => !(d == d') | none => true) | none => true) &&
  (match b.dst with | some d => !(looks ops a).contains d | none => true)
def slotsOk (ops : List Oper) : List Oper → Nat → Bool
  | [], _ => true
  | o :: os, i => (if (List.range i).all (fun k => match ops[k]? with | some a => slotsApart ops a o | none => true) then true else
      let b := allBefore ops i
      (List.range i).all (fun k => match ops[k]? with | some a => slotsApart ops a o || b.contains k | none => true)) && slotsOk ops os (i + 1)

def opServed : Op → Bool
  | .defer _ | .go _ | .select _ _ | .send _ _ | .recv _ _ _ => false
  | _ => true

def codeOk (n : Nat) : Code → Bool
  | .region _ ops draw => ops.toList.all (fun o => dstOk n o && opServed o.op) && (!draw || (edgesOk ops.toList 0 && slotsOk ops.toList ops.toList 0))
  | .seq a b => codeOk n a && codeOk n b
  | .cond _ a b => codeOk n a && codeOk n b
  | .block _ c => codeOk n c
  | .loop c => codeOk n c
  | .rangeFunc _ params assign body => params.toList.all (fun p => p < n) && codeOk n assign && codeOk n body
  | .scope c => codeOk n c
  | _ => true

/- loops over functions -/
structure LoopRel (ρ : Emb) (L : ALoop) (L' : Loop) : Prop where
  state : L'.state = L.state
  pending : L.state ≠ .busy → L'.pending = L.pending
  params : L'.params.toList = L.params
  assign : L'.assign = L.assign
  body : L'.body = L.body
  frame : FRel ρ L.fr L'.tmps
  okP : ∀ p ∈ L.params, p < L'.tmps.size
  okA : codeOk L'.tmps.size L.assign = true
  okB : codeOk L'.tmps.size L.body = true

def BRel (base : Nat) (ρ : Emb) (x : Option ABlk) (l : Loc) (w : World) : Prop :=
  match x with
  | some (.arr cells ro) => ∃ cc el fz, w.heap[l.c]? = some (.cells cc el fz) ∧ cc.size = l.n ∧ l.o + cells.length ≤ l.n ∧
      (∀ (i : Nat) (v : AVal), cells[i]? = some v → ∃ v', cc[l.o + i]? = some v' ∧ VRel ρ v v') ∧ (ro = false → fz = (0, 0) ∧ base ≤ l.c)
  | some (.mp es) => base ≤ l.c ∧ ∃ (ces : Array MapEntry) (clk : Nat), w.heap[l.c]? = some (.map ces clk) ∧ ces.size = es.length ∧
      ∀ (i : Nat) (k v : AVal), es[i]? = some (k, v) → ∃ e : MapEntry, ces[i]? = some e ∧ VRel ρ k e.key ∧ VRel ρ v e.val
  | some (.loop L) => base ≤ l.c ∧ ∃ L', w.heap[l.c]? = some (.loop L') ∧ LoopRel ρ L L'
  | some .dead => True
  | none => False

structure H0 (base : Nat) (ρ : Emb) (h : AHeap) (w : World) : Prop where
  clt : ∀ b l, ρ b = some l → l.c < w.heap.size
  blk : ∀ b l, ρ b = some l → BRel base ρ (h.get b) l w
  inj : ∀ b b' l l', ρ b = some l → ρ b' = some l' → b ≠ b' → Owns h b → Alive h b' → l.c ≠ l'.c
  base : base ≤ w.heap.size

structure HRel (base : Nat) (ρ : Emb) (h : AHeap) (w : World) : Prop extends H0 base ρ h w where
  lt : ∀ b l, ρ b = some l → b < h.next

theorem Owns.alive {h : AHeap} {b : Nat} (ho : Owns h b) : Alive h b := by
  unfold Owns at ho; unfold Alive
  cases hg : h.get b with
  | none => rw [hg] at ho; exact ho.elim
  | some x => rw [hg] at ho; cases x <;> first | trivial | exact ho.elim

/- a loop's record but for its state -/
structure LSame (L L' : ALoop) : Prop where
  fr : L'.fr = L.fr
  params : L'.params = L.params
  assign : L'.assign = L.assign
  body : L'.body = L.body

theorem LSame.refl (L : ALoop) : LSame L L := ⟨rfl, rfl, rfl, rfl⟩
theorem LSame.trans {a b c : ALoop} (h : LSame a b) (h' : LSame b c) : LSame a c := ⟨h'.fr.trans h.fr, h'.params.trans h.params, h'.assign.trans h.assign, h'.body.trans h.body⟩

structure Trans (ρ : Emb) (h : AHeap) (w : World) (ρ' : Emb) (h' : AHeap) (w' : World) : Prop where
  ext : Ext ρ ρ'
  size : w.heap.size ≤ w'.heap.size
  frame : ∀ k, k < w.heap.size → (∀ b l, ρ b = some l → Owns h b → l.c ≠ k) → w'.heap[k]? = w.heap[k]?
  own : ∀ b l, ρ' b = some l → Alive h' b → (ρ b = some l ∧ Alive h b ∧ (Owns h' b → Owns h b)) ∨ w.heap.size ≤ l.c ∨ ∃ b0 l0, ρ b0 = some l0 ∧ Owns h b0 ∧ l0.c = l.c
  os : w'.os = w.os
  tape : w'.tape = w.tape
  output : w'.output = w.output
  loops : ∀ b l L, ρ b = some l → h.get b = some (.loop L) → ∃ L', h'.get b = some (.loop L') ∧ LSame L L'
  next : h.next ≤ h'.next
  dom : ∀ b l, ρ' b = some l → ρ b = some l ∨ (h.next ≤ b ∧ b < h'.next)
  junk : ∀ b, b < h.next → ρ b = none → h'.get b = h.get b

theorem Trans.same {ρ : Emb} {h : AHeap} {w w' : World} (size : w.heap.size ≤ w'.heap.size) (frame : ∀ k, k < w.heap.size → (∀ b l, ρ b = some l → Owns h b → l.c ≠ k) → w'.heap[k]? = w.heap[k]?)
    (os : w'.os = w.os) (tape : w'.tape = w.tape) (output : w'.output = w.output) : Trans ρ h w ρ h w' :=
  ⟨.refl ρ, size, frame, fun _ _ hb ha => .inl ⟨hb, ha, id⟩, os, tape, output, fun _ _ L _ h => ⟨L, h, .refl L⟩, Nat.le_refl _, fun _ _ hb => .inl hb, fun _ _ _ => rfl⟩

theorem Trans.refl (ρ : Emb) (h : AHeap) (w : World) : Trans ρ h w ρ h w := .same (Nat.le_refl _) (fun _ _ _ => rfl) rfl rfl rfl

theorem Trans.trans {ρ ρ₁ ρ₂ : Emb} {h h₁ h₂ : AHeap} {w w₁ w₂ : World} (a : Trans ρ h w ρ₁ h₁ w₁) (b : Trans ρ₁ h₁ w₁ ρ₂ h₂ w₂) : Trans ρ h w ρ₂ h₂ w₂ := by
  refine ⟨a.ext.trans b.ext, Nat.le_trans a.size b.size, fun k hk hb => ?_, fun b' l hb' ho => ?_, b.os.trans a.os, b.tape.trans a.tape, b.output.trans a.output,
    fun b' l L hb hg => let ⟨L1, h1, s1⟩ := a.loops b' l L hb hg; let ⟨L2, h2, s2⟩ := b.loops b' l L1 (a.ext _ _ hb) h1; ⟨L2, h2, s1.trans s2⟩, Nat.le_trans a.next b.next, fun b' l hb' => ?_, fun b' hb' hn => ?_⟩
  · rw [b.frame k (Nat.lt_of_lt_of_le hk a.size) ?_, a.frame k hk hb]
    intro b1 l1 hb1 ho1 e
    rcases a.own b1 l1 hb1 ho1.alive with ⟨h0, _, h2⟩ | h1 | ⟨b0, l0, h0, ho0, e0⟩
    · exact hb b1 l1 h0 (h2 ho1) e
    · omega
    · exact hb b0 l0 h0 ho0 (e0.trans e)
  · rcases b.own b' l hb' ho with ⟨h1, h2, h3⟩ | h1 | ⟨b1, l1, h1, ho1, e1⟩
    · rcases a.own b' l h1 h2 with ⟨g1, g2, g3⟩ | g1 | g1
      · exact .inl ⟨g1, g2, fun q => g3 (h3 q)⟩
      · exact .inr (.inl g1)
      · exact .inr (.inr g1)
    · exact .inr (.inl (Nat.le_trans a.size h1))
    · rcases a.own b1 l1 h1 ho1.alive with ⟨g1, g2, g3⟩ | h2 | ⟨b0, l0, h0, ho0, e0⟩
      · exact .inr (.inr ⟨b1, l1, g1, g3 ho1, e1⟩)
      · exact .inr (.inl (by rw [← e1]; exact h2))
      · exact .inr (.inr ⟨b0, l0, h0, ho0, e0.trans e1⟩)
  · rcases b.dom b' l hb' with h1 | ⟨h1, h2⟩
    · rcases a.dom b' l h1 with g1 | ⟨g1, g2⟩
      · exact .inl g1
      · exact .inr ⟨g1, Nat.lt_of_lt_of_le g2 b.next⟩
    · exact .inr ⟨Nat.le_trans a.next h1, h2⟩
  · have h1 : ρ₁ b' = none := by
      cases hx : ρ₁ b' with
      | none => rfl
      | some l =>
        rcases a.dom b' l hx with g | ⟨g, _⟩
        · rw [hn] at g; cases g
        · omega
    rw [b.junk b' (Nat.lt_of_lt_of_le hb' a.next) h1, a.junk b' hb' hn]

theorem Trans.lt {ρ ρ' : Emb} {h h' : AHeap} {w w' : World} (t : Trans ρ h w ρ' h' w') (hl : ∀ b l, ρ b = some l → b < h.next) : ∀ b l, ρ' b = some l → b < h'.next := by
  intro b l hb
  rcases t.dom b l hb with h1 | ⟨_, h2⟩
  · exact Nat.lt_of_lt_of_le (hl b l h1) t.next
  · exact h2

theorem H0.toH {base : Nat} {ρ ρ' : Emb} {h h' : AHeap} {w w' : World} (h0 : H0 base ρ' h' w') (t : Trans ρ h w ρ' h' w') (hr : HRel base ρ h w) : HRel base ρ' h' w' := ⟨h0, t.lt hr.lt⟩

theorem HRel.none_next {base : Nat} {ρ : Emb} {h : AHeap} {w : World} (hr : HRel base ρ h w) : ρ h.next = none := by
  cases e : ρ h.next with
  | none => rfl
  | some l => exact absurd (hr.lt _ _ e) (Nat.lt_irrefl _)

/- the tables are the program's -/
structure Tab.Ok (T : Tab) (P : Program) : Prop where
  types : ∀ t i, T.types.get t = some i → P.underlying t = some i.desc ∧ ∃ j, P.info? t = some j ∧ j.size = i.size ∧ j.bytes = i.bytes ∧
    (∀ z, i.zero = some z → ∃ zv, j.zero = some zv ∧ ofVal zv = some z) ∧ (i.stood = false → P.stoodInHeld t = false) ∧ (i.eqg = false → P.eqGuardType P.depth t = false)
  funcs : ∀ f F, T.funcs.get f = some F → P.funcs[f]? = some F ∧ (F.name == "runtime.NumGoroutine") = false ∧ (∀ c, F.body = some c → codeOk F.ntmps c = true)
  mixed : P.follows .mixedOrders = true
  consts : ∀ g v, T.consts.get g = some v → (∃ F, P.funcs[g]? = some F ∧ (F.name == "runtime.NumGoroutine") = false ∧ F.body.isSome = true) ∧ ∀ w, Calls P g #[] w fun e w' =>
    ∃ v', e = .returned v' ∧ (∀ ρ, VRel ρ v v') ∧ w.heap.size ≤ w'.heap.size ∧ (∀ k, k < w.heap.size → w'.heap[k]? = w.heap[k]?) ∧ w'.os = w.os ∧ w'.tape = w.tape ∧ w'.output = w.output

end Go.Ai
