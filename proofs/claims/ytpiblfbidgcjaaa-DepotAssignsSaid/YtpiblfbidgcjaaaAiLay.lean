/- An abstract interpreter for the model's code: the arguments of a call, laid as abstract values that nobody writes. -/
import Derived.Test.YtpiblfbidgcjaaaAiSound
import Derived.ChangeArms
import Derived.ChangeShapes
import Derived.WideShapes
import Derived.RowKit
namespace Go.Ai

/- a heap that has grown -/
structure HExt (h h' : AHeap) : Prop where
  next : h.next ≤ h'.next
  same : ∀ b, b < h.next → h'.get b = h.get b
  wm : h.wm ≤ h.next → h'.wm ≤ h'.next

theorem HExt.refl (h : AHeap) : HExt h h := ⟨Nat.le_refl _, fun _ _ => rfl, id⟩
theorem HExt.trans {a b c : AHeap} (h : HExt a b) (h' : HExt b c) : HExt a c :=
  ⟨Nat.le_trans h.next h'.next, fun k hk => (h'.same k (Nat.lt_of_lt_of_le hk h.next)).trans (h.same k hk), fun q => h'.wm (h.wm q)⟩
theorem HExt.push (h : AHeap) (x : ABlk) : HExt h (h.push x) :=
  ⟨by simp [AHeap.next_push], fun b hb => by rw [AHeap.get_push, if_neg (by omega)], fun q => Nat.le_succ_of_le q⟩

/- blocks that nobody writes any more -/
def Store : Type := Nat → Option ABlk
def Store.le (z z' : Store) : Prop := ∀ b x, z b = some x → z' b = some x
theorem Store.le.refl (z : Store) : z.le z := fun _ _ h => h
theorem Store.le.trans {a b c : Store} (h : a.le b) (h' : b.le c) : a.le c := fun k x hk => h' k x (h k x hk)
def AHeap.st (h : AHeap) : Store := fun b => if b < h.next then h.get b else none
theorem AHeap.st_lt {h : AHeap} {b : Nat} {x : ABlk} (e : h.st b = some x) : b < h.next ∧ h.get b = some x := by
  unfold AHeap.st at e
  split at e
  · exact ⟨by assumption, e⟩
  · cases e
theorem AHeap.st_of {h : AHeap} {b : Nat} {x : ABlk} (hb : b < h.next) (e : h.get b = some x) : h.st b = some x := by
  unfold AHeap.st; rw [if_pos hb]; exact e
theorem HExt.st {h h' : AHeap} (e : HExt h h') : h.st.le h'.st := fun b x hb => by
  obtain ⟨h1, h2⟩ := AHeap.st_lt hb
  exact AHeap.st_of (Nat.lt_of_lt_of_le h1 e.next) (by rw [e.same b h1]; exact h2)

/- how cells stand for data -/
structure Rep (A : Type) where
  sz : Nat
  agg : Bool
  rel : Store → List AVal → A → Prop
  len : ∀ z cs x, rel z cs x → cs.length = sz
  mono : ∀ z z' cs x, z.le z' → rel z cs x → rel z' cs x
  one : agg = false → sz = 1
  ones : ∀ z cs x, rel z cs x → cs.all AVal.one = true

def rInt (k : IntKind) : Rep Int :=
  ⟨1, false, fun _ cs x => cs = [.int k x] ∧ k.min ≤ x ∧ x ≤ k.max, fun _ _ _ h => by rw [h.1]; rfl, fun _ _ _ _ _ h => h, fun _ => rfl, fun _ _ _ h => by rw [h.1]; rfl⟩
def rBool : Rep Bool := ⟨1, false, fun _ cs x => cs = [.bool x], fun _ _ _ h => by rw [h]; rfl, fun _ _ _ _ _ h => h, fun _ => rfl, fun _ _ _ h => by rw [h]; rfl⟩

/- a row: a slice's elements -/
def RowAt {A : Type} (R : Rep A) (z : Store) (v : AVal) (xs : List A) : Prop :=
  xs.length ≤ maxLen ∧ ((v = .nilslice ∧ xs = []) ∨ (∃ b off cap, v = .slice b off 0 R.sz cap ∧ xs = [] ∧ z b = some .dead) ∨
    ∃ b off cap cells ro, v = .slice b off xs.length R.sz cap ∧ z b = some (.arr cells ro) ∧ off + xs.length * R.sz ≤ cells.length ∧ (∀ c, cap = some c → xs.length ≤ c) ∧
      ∀ i x, xs[i]? = some x → R.rel z ((cells.drop (off + i * R.sz)).take R.sz) x)

theorem RowAt.mono {A : Type} {R : Rep A} {z z' : Store} {v : AVal} {xs : List A} (e : z.le z') (r : RowAt R z v xs) : RowAt R z' v xs := by
  obtain ⟨r0, r⟩ := r
  refine ⟨r0, ?_⟩
  rcases r with r | ⟨b, off, cap, r1, r2, r4⟩ | ⟨b, off, cap, cells, ro, r1, r3, r4, r6, r5⟩
  · exact .inl r
  · exact .inr (.inl ⟨b, off, cap, r1, r2, e _ _ r4⟩)
  · exact .inr (.inr ⟨b, off, cap, cells, ro, r1, e _ _ r3, r4, r6, fun i x hx => R.mono _ _ _ _ e (r5 i x hx)⟩)

theorem RowAt.one {A : Type} {R : Rep A} {z : Store} {v : AVal} {xs : List A} (r : RowAt R z v xs) : v.one = true := by
  rcases r.2 with ⟨rfl, _⟩ | ⟨b, off, cap, rfl, _⟩ | ⟨b, off, cap, cells, ro, rfl, _⟩ <;> rfl

def rSlice {A : Type} (R : Rep A) : Rep (List A) :=
  ⟨1, false, fun z cs xs => ∃ v, cs = [v] ∧ RowAt R z v xs, fun _ _ _ h => by obtain ⟨v, h, _⟩ := h; rw [h]; rfl, fun _ _ _ _ e h => let ⟨v, h1, h2⟩ := h; ⟨v, h1, h2.mono e⟩,
    fun _ => rfl, fun _ _ _ h => by obtain ⟨v, h, r⟩ := h; rw [h]; simp [r.one]⟩
def rUnit : Rep Unit := ⟨0, true, fun _ cs _ => cs = [], fun _ _ _ h => by rw [h]; rfl, fun _ _ _ _ _ h => h, fun h => (by cases h), fun _ _ _ h => by rw [h]; rfl⟩
def rPair {A B : Type} (R : Rep A) (S : Rep B) : Rep (A × B) :=
  ⟨R.sz + S.sz, true, fun z cs x => ∃ c1 c2, cs = c1 ++ c2 ∧ R.rel z c1 x.1 ∧ S.rel z c2 x.2,
    fun h cs x r => by obtain ⟨c1, c2, rfl, r1, r2⟩ := r; rw [List.length_append, R.len _ _ _ r1, S.len _ _ _ r2],
    fun _ _ _ _ e r => let ⟨c1, c2, r0, r1, r2⟩ := r; ⟨c1, c2, r0, R.mono _ _ _ _ e r1, S.mono _ _ _ _ e r2⟩,
    fun h => (by cases h), fun z cs x r => by obtain ⟨c1, c2, rfl, r1, r2⟩ := r; rw [List.all_append, R.ones _ _ _ r1, S.ones _ _ _ r2]; rfl⟩

/- nobody owns anything -/
def NoOwn (ρ : Emb) (h : AHeap) : Prop := ∀ b l, ρ b = some l → ¬ Owns h b

structure Lay (W : World) (ρ : Emb) (h : AHeap) (ρ' : Emb) (h' : AHeap) : Prop where
  ext : Ext ρ ρ'
  heap : HRel W.heap.size ρ' h' W
  none : NoOwn ρ' h'
  grow : HExt h h'

theorem Lay.trans {W : World} {ρ ρ1 ρ2 : Emb} {h h1 h2 : AHeap} (a : Lay W ρ h ρ1 h1) (b : Lay W ρ1 h1 ρ2 h2) : Lay W ρ h ρ2 h2 :=
  ⟨a.ext.trans b.ext, b.heap, b.none, a.grow.trans b.grow⟩

theorem Lay.push {W : World} {ρ : Emb} {h : AHeap} (hr : HRel W.heap.size ρ h W) (hn : NoOwn ρ h) (x : ABlk) (l : Loc) (hl : l.c < W.heap.size) (hb : BRel W.heap.size ρ (some x) l W) (ho : ∀ c, x = .arr c true ∨ x = .dead → True) (hx : (∃ c, x = .arr c true) ∨ x = .dead) :
    Lay W ρ h (ρ.add h.next l) (h.push x) := by
  have hfr := hr.none_next
  have hnx : ¬ Owns (h.push x) h.next := by
    unfold Owns
    rw [AHeap.get_push, if_pos rfl]
    rcases hx with ⟨c, rfl⟩ | rfl <;> exact fun q => q
  have hno : NoOwn (ρ.add h.next l) (h.push x) := by
    intro b l' hb'
    by_cases e : b = h.next
    · subst e; exact hnx
    · rw [Emb.add_ne _ _ _ e] at hb'
      rw [owns_push e]
      exact hn b l' hb'
  refine ⟨Ext.add hfr, ⟨⟨?_, ?_, ?_, hr.base⟩, ?_⟩, hno, HExt.push _ _⟩
  · intro b l' hb'
    by_cases e : b = h.next
    · subst e; rw [Emb.add_same] at hb'; cases hb'; exact hl
    · rw [Emb.add_ne _ _ _ e] at hb'; exact hr.clt b l' hb'
  · intro b l' hb'
    rw [AHeap.get_push]
    by_cases e : b = h.next
    · subst e; rw [Emb.add_same] at hb'; cases hb'; rw [if_pos rfl]; exact hb.mono (Ext.add hfr) rfl
    · rw [Emb.add_ne _ _ _ e] at hb'; rw [if_neg e]; exact (hr.blk b l' hb').mono (Ext.add hfr) rfl
  · intro b b' l' l'' hb' _ _ ho' _
    exact absurd ho' (hno b l' hb')
  · intro b l' hb'
    rw [AHeap.next_push]
    by_cases e : b = h.next
    · omega
    · rw [Emb.add_ne _ _ _ e] at hb'
      have := hr.lt b l' hb'
      omega

/- a type whose readings stand for data -/
def Opens (P : Program) {A : Type} (t : TypeId) (R : Rep A) : Prop :=
  P.cellsOf t = R.sz ∧ R.agg = (match P.underlying t with | some (.struct _) => true | _ => false) ∧ ∀ (H : Type) (enc : TypeId × Value → H) (W : World) (fuel : Nat) (cs : List Value) (x : DataW H × List MemPlace), 0 < W.heap.size →
    DataW.trod enc P W 0 (fun _ => true) true fuel t cs = some x → ∀ (ρ : Emb) (h : AHeap), HRel W.heap.size ρ h W → NoOwn ρ h →
      ∃ ρ' h' cells d, Lay W ρ h ρ' h' ∧ LRel ρ' cells cs ∧ R.rel h'.st cells d

section
variable {P : Program}

theorem opens_int {t : TypeId} {k : IntKind} (ht : P.underlying t = some (.int k)) (hc : P.cellsOf t = 1) : Opens P t (rInt k) := by
  refine ⟨hc, by rw [ht]; rfl, fun H enc W fuel cs x _ hx ρ h hr hn => ?_⟩
  obtain ⟨n, rfl, _, hw⟩ := DataW.trod_int ht hx
  simp only [Lit.wf, Bool.and_eq_true, decide_eq_true_eq] at hw
  exact ⟨ρ, h, [.int k n], n, ⟨.refl _, hr, hn, .refl _⟩, .cons (.int k n) (.nil _), rfl, hw.1, hw.2⟩

theorem opens_bool {t : TypeId} (ht : P.underlying t = some .bool) (hc : P.cellsOf t = 1) : Opens P t rBool := by
  refine ⟨hc, by rw [ht]; rfl, fun H enc W fuel cs x _ hx ρ h hr hn => ?_⟩
  obtain ⟨b, rfl, _⟩ := DataW.trod_bool ht hx
  exact ⟨ρ, h, [.bool b], b, ⟨.refl _, hr, hn, .refl _⟩, .cons (.bool b) (.nil _), rfl⟩

theorem addr_add_add (a : Addr) (m n : Nat) : (a.add m).add n = a.add (m + n) := by
  unfold Addr.add
  by_cases h1 : n = 0
  · subst h1; simp
  · by_cases h2 : m = 0
    · subst h2; simp
    · rw [if_neg h1, if_neg h2, if_neg (by omega)]
      simp [Nat.add_assoc]

/- several readings, one after the other -/
theorem opens_many {A : Type} {e : TypeId} {R : Rep A} (ho : Opens P e R) {H : Type} {enc : TypeId × Value → H} {W : World} (hpos : 0 < W.heap.size) {fuel : Nat} :
    ∀ (css : List (List Value)), (∀ cs ∈ css, ∃ x, DataW.trod enc P W 0 (fun _ => true) true fuel e cs = some x) → ∀ (ρ : Emb) (h : AHeap), HRel W.heap.size ρ h W → NoOwn ρ h →
      ∃ (ρ' : Emb) (h' : AHeap) (cellss : List (List AVal)) (xs : List A), Lay W ρ h ρ' h' ∧ cellss.length = css.length ∧ xs.length = css.length ∧ LRel ρ' cellss.flatten css.flatten ∧
        ∀ (i : Nat) (c : List AVal) (x : A), cellss[i]? = some c → xs[i]? = some x → R.rel h'.st c x
  | [], _, ρ, h, hr, hn => ⟨ρ, h, [], [], ⟨.refl _, hr, hn, .refl _⟩, rfl, rfl, .nil _, by simp⟩
  | cs :: css, hall, ρ, h, hr, hn => by
    obtain ⟨x, hx⟩ := hall cs (List.mem_cons_self ..)
    obtain ⟨ρ1, h1, c1, d1, l1, r1, q1⟩ := ho.2.2 H enc W fuel cs x hpos hx ρ h hr hn
    obtain ⟨ρ2, h2, cells2, xs, l2, e1, e2, r2, q2⟩ := opens_many ho hpos css (fun c hc => hall c (List.mem_cons_of_mem _ hc)) ρ1 h1 l1.heap l1.none
    refine ⟨ρ2, h2, c1 :: cells2, d1 :: xs, l1.trans l2, by simp [e1], by simp [e2], ?_, ?_⟩
    · simp only [List.flatten_cons]
      exact (r1.mono l2.ext).append r2
    · intro i c y hc hy
      cases i with
      | zero =>
        simp at hc hy
        subst hc hy
        exact R.mono _ _ _ _ l2.grow.st q1
      | succ i => exact q2 i c y (by simpa using hc) (by simpa using hy)

/- pieces of one length, laid end to end -/
theorem flatten_piece {α : Type} {n : Nat} : ∀ (ls : List (List α)), (∀ l ∈ ls, l.length = n) → ls.flatten.length = ls.length * n ∧ ∀ i l, ls[i]? = some l → (ls.flatten.drop (i * n)).take n = l
  | [], _ => ⟨by simp, by simp⟩
  | l :: ls, h => by
    obtain ⟨h1, h2⟩ := flatten_piece ls (fun x hx => h x (List.mem_cons_of_mem _ hx))
    have hl := h l (List.mem_cons_self ..)
    refine ⟨by simp [h1, hl, Nat.add_mul]; omega, fun i x hx => ?_⟩
    cases i with
    | zero =>
      simp at hx
      subst hx
      simp [← hl]
    | succ i =>
      have := h2 i x (by simpa using hx)
      have e : (l :: ls).flatten.drop ((i + 1) * n) = ls.flatten.drop (i * n) := by
        rw [List.flatten_cons, show (i + 1) * n = l.length + i * n from by rw [hl, Nat.add_mul]; omega, List.drop_append, List.drop_eq_nil_of_le (by omega)]
        simp
      rw [e]; exact this

theorem flatten_get {α : Type} {n : Nat} (hn : 0 < n) (ls : List (List α)) (h : ∀ l ∈ ls, l.length = n) (k : Nat) (x : α) (hk : ls.flatten[k]? = some x) : ∃ l, ls[k / n]? = some l ∧ l[k % n]? = some x := by
  obtain ⟨h1, h2⟩ := flatten_piece ls h
  have hlt : k < ls.length * n := by rw [← h1]; exact (List.getElem?_eq_some_iff.1 hk).1
  have hd : k / n < ls.length := by rw [Nat.div_lt_iff_lt_mul hn]; exact hlt
  refine ⟨ls[k / n], List.getElem?_eq_getElem hd, ?_⟩
  rw [← h2 (k / n) _ (List.getElem?_eq_getElem hd), List.getElem?_take, if_pos (Nat.mod_lt _ hn), List.getElem?_drop]
  rw [show k / n * n + k % n = k from by rw [Nat.mul_comm]; exact Nat.div_add_mod k n]
  exact hk

theorem opens_slice {A : Type} {t e : TypeId} {R : Rep A} (ht : P.underlying t = some (.slice e)) (hc : P.cellsOf t = 1) (ho : Opens P e R) (hsz : 0 < R.sz) : Opens P t (rSlice R) := by
  refine ⟨hc, by rw [ht]; rfl, fun H enc W fuel cs x hpos hx ρ h hr hn => ?_⟩
  rcases DataW.trod_slice ht hx with ⟨rfl, _⟩ | ⟨a, len, cap, elems, rest, n, rfl, rfl, _, _, hlc, hcm, hel, helems, hrest, _⟩
  · exact ⟨ρ, h, [.nilslice], [], ⟨.refl _, hr, hn, .refl _⟩, .cons .nilslice (.nil _), _, rfl, by simp [maxLen], .inl ⟨rfl, rfl⟩⟩
  · obtain ⟨hrl, hrest⟩ := hrest rfl
    have hce := ho.1
    -- every element up to the capacity can be read
    have read : ∀ i, i < cap → ∃ ci x, W.cells? 0 (a.add (i * R.sz)) R.sz = some ci ∧ DataW.trod enc P W 0 (fun _ => true) true n e ci = some x := by
      intro i hi
      by_cases hil : i < len
      · have h1 := helems i hil
        rw [List.getElem?_eq_getElem (by omega), Option.bind_eq_some_iff] at h1
        obtain ⟨ci, h1, h2⟩ := h1
        rw [hce] at h1
        exact ⟨ci, _, h1, h2⟩
      · have h1 := hrest (i - len) (by omega)
        rw [List.getElem?_eq_getElem (by omega), Option.bind_eq_some_iff] at h1
        obtain ⟨ci, h1, h2⟩ := h1
        rw [hce, show len + (i - len) = i from by omega] at h1
        exact ⟨ci, _, h1, h2⟩
    by_cases hc0 : cap = 0
    · have hl0 : len = 0 := by omega
      subst hc0 hl0
      have hlay := Lay.push hr hn .dead ⟨0, 0, 0⟩ hpos trivial (fun _ _ => trivial) (.inr rfl)
      refine ⟨_, _, [.slice h.next 0 0 R.sz none], [], hlay, .cons (.slice h.next 0 0 R.sz none ⟨0, 0, 0⟩ a 0 (Emb.add_same _ _ _) (Nat.le_refl _) (fun k hk => by cases hk) (.inl rfl)) (.nil _), _, rfl, by simp [maxLen], .inr (.inl ⟨h.next, 0, none, rfl, rfl, ?_⟩)⟩
      exact AHeap.st_of (by rw [AHeap.next_push]; omega) (by rw [AHeap.get_push, if_pos rfl])
    · -- the block
      have hcell : ∀ k, k < cap * R.sz → ∃ v, W.cell? (a.add k) = some v := by
        intro k hk
        have hd : k / R.sz < cap := by rw [Nat.div_lt_iff_lt_mul hsz]; exact hk
        obtain ⟨ci, _, h1, _⟩ := read (k / R.sz) hd
        obtain ⟨_, h2, h3⟩ := World.cells?_some h1
        have hm := Nat.mod_lt k hsz
        have h4 := h3 (k % R.sz) hm
        rw [addr_add_add, show k / R.sz * R.sz + k % R.sz = k from by rw [Nat.mul_comm]; exact Nat.div_add_mod k _, List.getElem?_eq_getElem (by omega)] at h4
        exact ⟨_, h4⟩
      have hcs : 0 < cap * R.sz := Nat.mul_pos (by omega) hsz
      obtain ⟨v0, hv0⟩ := hcell 0 hcs
      have ha0 : a.add 0 = a := by simp [Addr.add]
      rw [ha0] at hv0
      unfold World.cell? at hv0
      split at hv0
      case h_2 => cases hv0
      rename_i cc el fz hblk
      have hspot : a.spot = none := by
        cases hs : a.spot with
        | none => rfl
        | some q => rw [hs] at hv0; simp at hv0
      have hadd : ∀ k, W.cell? (a.add k) = cc[a.off + k]? := by
        intro k
        unfold World.cell? Addr.add
        by_cases hk : k = 0
        · subst hk; simp [hblk, hspot]
        · simp [hk, hblk]
      have hfit : a.off + cap * R.sz ≤ cc.size := by
        obtain ⟨v, hv⟩ := hcell (cap * R.sz - 1) (by omega)
        rw [hadd] at hv
        have := (Array.getElem?_eq_some_iff.1 hv).1
        omega
      have hblt : a.block < W.heap.size := (Array.getElem?_eq_some_iff.1 hblk).1
      -- the elements
      have hpieces : ∀ i, i < len → ∃ x, DataW.trod enc P W 0 (fun _ => true) true n e ((cc.toList.drop (a.off + i * R.sz)).take R.sz) = some x := by
        intro i hi
        obtain ⟨ci, x, h1, h2⟩ := read i (by omega)
        obtain ⟨_, h3, h4⟩ := World.cells?_some h1
        have : ci = (cc.toList.drop (a.off + i * R.sz)).take R.sz := by
          apply List.ext_getElem?
          intro j
          by_cases hj : j < R.sz
          · rw [← h4 j hj, addr_add_add, hadd, List.getElem?_take, if_pos hj, List.getElem?_drop, Nat.add_assoc]
            simp
          · rw [List.getElem?_eq_none (by omega), List.getElem?_eq_none (by simp; omega)]
        exact ⟨x, by rw [← this]; exact h2⟩
      obtain ⟨ρ1, h1, cellss, xs, l1, e1, e2, r1, q1⟩ := opens_many ho hpos (enc := enc) (fuel := n) ((List.range len).map fun i => (cc.toList.drop (a.off + i * R.sz)).take R.sz) (by
        intro c hc
        obtain ⟨i, hi, rfl⟩ := List.mem_map.1 hc
        exact hpieces i (List.mem_range.1 hi)) ρ h hr hn
      simp only [List.length_map, List.length_range] at e1 e2
      have hclen : ∀ c ∈ cellss, c.length = R.sz := by
        intro c hc
        obtain ⟨i, hi, rfl⟩ := List.getElem_of_mem hc
        exact R.len _ _ _ (q1 i _ xs[i] (List.getElem?_eq_getElem hi) (List.getElem?_eq_getElem (by omega)))
      obtain ⟨fl, fp⟩ := flatten_piece cellss hclen
      have hplen : ∀ c ∈ (List.range len).map (fun i => (cc.toList.drop (a.off + i * R.sz)).take R.sz), c.length = R.sz := by
        intro c hc
        obtain ⟨i, hi, rfl⟩ := List.mem_map.1 hc
        have hi := List.mem_range.1 hi
        have : (i + 1) * R.sz ≤ cap * R.sz := Nat.mul_le_mul_right _ (by omega)
        rw [Nat.add_mul] at this
        simp
        omega
      have hbr : BRel W.heap.size ρ1 (some (.arr cellss.flatten true)) ⟨a.block, a.off, cc.size⟩ W := by
        refine ⟨cc, el, fz, hblk, rfl, ?_, fun i v hv => ?_, fun q => by cases q⟩
        · have : len * R.sz ≤ cap * R.sz := Nat.mul_le_mul_right _ hlc
          simp only [fl, e1]
          omega
        · obtain ⟨v', hv', hrel⟩ := r1.at hv
          obtain ⟨l, hl1, hl2⟩ := flatten_get hsz _ hplen i v' hv'
          rw [List.getElem?_map] at hl1
          cases hr' : (List.range len)[i / R.sz]? with
          | none => rw [hr'] at hl1; cases hl1
          | some q =>
            rw [hr'] at hl1
            cases hl1
            have hq : q = i / R.sz := by
              obtain ⟨h1, h2⟩ := List.getElem?_eq_some_iff.1 hr'
              simpa using h2.symm
            subst hq
            rw [List.getElem?_take, if_pos (Nat.mod_lt _ hsz), List.getElem?_drop] at hl2
            rw [Nat.add_assoc, show i / R.sz * R.sz + i % R.sz = i from by rw [Nat.mul_comm]; exact Nat.div_add_mod i _] at hl2
            exact ⟨v', by simpa using hl2, hrel⟩
      have hlay := Lay.push l1.heap l1.none (.arr cellss.flatten true) ⟨a.block, a.off, cc.size⟩ hblt hbr (fun _ _ => trivial) (.inl ⟨_, rfl⟩)
      refine ⟨_, _, [.slice h1.next 0 len R.sz none], xs, l1.trans hlay, .cons (.slice h1.next 0 len R.sz none ⟨a.block, a.off, cc.size⟩ a cap (Emb.add_same _ _ _) hlc (fun k hk => by cases hk) (.inr ⟨?_, by simpa using hfit⟩)) (.nil _), _, rfl, by omega, .inr (.inr ⟨h1.next, 0, none, cellss.flatten, true, by rw [e2], ?_, ?_, fun c q => (nomatch q), ?_⟩)⟩
      · obtain ⟨ab, ao, as⟩ := a; simp at hspot; subst hspot; rfl
      · exact AHeap.st_of (by rw [AHeap.next_push]; omega) (by rw [AHeap.get_push, if_pos rfl])
      · rw [fl, e1, e2]; omega
      · intro i x hx
        have hi : i < xs.length := (List.getElem?_eq_some_iff.1 hx).1
        rw [Nat.zero_add, fp i _ (List.getElem?_eq_getElem (by omega))]
        exact R.mono _ _ _ _ hlay.grow.st (q1 i _ x (List.getElem?_eq_getElem (by omega)) hx)

/- structs -/
def OpensF (P : Program) {A : Type} (fs : List Field) (o : Nat) (R : Rep A) : Prop :=
  ∀ (H : Type) (enc : TypeId × Value → H) (W : World) (fuel : Nat) (cs : List Value), 0 < W.heap.size → cs.length = o + R.sz →
    (∀ f ∈ fs, ∃ x, DataW.trod enc P W 0 (fun _ => true) true fuel f.type ((cs.drop f.offset).take (P.cellsOf f.type)) = some x) → ∀ (ρ : Emb) (h : AHeap), HRel W.heap.size ρ h W → NoOwn ρ h →
      ∃ ρ' h' cells d, Lay W ρ h ρ' h' ∧ LRel ρ' cells (cs.drop o) ∧ R.rel h'.st cells d

theorem opensF_nil (o : Nat) : OpensF P [] o rUnit := by
  intro H enc W fuel cs _ hl _ ρ h hr hn
  refine ⟨ρ, h, [], (), ⟨.refl _, hr, hn, .refl _⟩, ?_, rfl⟩
  rw [List.drop_eq_nil_of_le (by rw [hl]; simp [rUnit])]
  exact .nil _

theorem opensF_cons {A B : Type} {f : Field} {fs : List Field} {o : Nat} {R : Rep A} {S : Rep B} (hf : f.offset = o) (ho : Opens P f.type R) (hs : OpensF P fs (o + R.sz) S) : OpensF P (f :: fs) o (rPair R S) := by
  intro H enc W fuel cs hpos hl hall ρ h hr hn
  obtain ⟨x, hx⟩ := hall f (List.mem_cons_self ..)
  rw [hf, ho.1] at hx
  obtain ⟨ρ1, h1, c1, d1, l1, r1, q1⟩ := ho.2.2 H enc W fuel _ x hpos hx ρ h hr hn
  obtain ⟨ρ2, h2, c2, d2, l2, r2, q2⟩ := hs H enc W fuel cs hpos (by rw [hl]; simp [rPair]; omega) (fun g hg => hall g (List.mem_cons_of_mem _ hg)) ρ1 h1 l1.heap l1.none
  refine ⟨ρ2, h2, c1 ++ c2, (d1, d2), l1.trans l2, ?_, c1, c2, rfl, R.mono _ _ _ _ l2.grow.st q1, q2⟩
  have e : cs.drop o = (cs.drop o).take R.sz ++ cs.drop (o + R.sz) := by
    rw [show cs.drop (o + R.sz) = (cs.drop o).drop R.sz from by rw [List.drop_drop]]
    exact (List.take_append_drop _ _).symm
  rw [e]
  exact (r1.mono l2.ext).append r2

theorem opens_struct {A : Type} {t : TypeId} {fs : Array Field} {R : Rep A} (ht : P.underlying t = some (.struct fs)) (hc : P.cellsOf t = R.sz) (hag : R.agg = true) (ho : OpensF P fs.toList 0 R) : Opens P t R := by
  refine ⟨hc, by rw [ht]; exact hag, fun H enc W fuel cs x hpos hx ρ h hr hn => ?_⟩
  obtain ⟨xs, n, rfl, _, h1, h2, h3⟩ := DataW.trod_struct ht hx
  obtain ⟨ρ', h', cells, d, l, r, q⟩ := ho H enc W n cs hpos (by rw [h1, hc]; omega) (fun f hf => by
    obtain ⟨i, hi, rfl⟩ := List.getElem_of_mem hf
    have hi' : i < fs.size := by simpa using hi
    have := h3 i fs.toList[i] (by simp [hi'])
    rw [List.getElem?_eq_getElem (by omega)] at this
    exact ⟨_, this⟩) ρ h hr hn
  exact ⟨ρ', h', cells, d, l, by simpa using r, q⟩

/- a value that stands for a datum -/
def AVal.isAgg : AVal → Bool
  | .agg _ => true
  | _ => false
structure TV {A : Type} (R : Rep A) (z : Store) (v : AVal) (x : A) : Prop where
  rel : R.rel z v.cells x
  agg : v.isAgg = R.agg
theorem TV.mono {A : Type} {R : Rep A} {z z' : Store} {v : AVal} {x : A} (e : z.le z') (t : TV R z v x) : TV R z' v x := ⟨R.mono _ _ _ _ e t.rel, t.agg⟩

/- an argument -/
theorem opens_arg {A : Type} {t : TypeId} {R : Rep A} (ho : Opens P t R) {H : Type} {enc : TypeId × Value → H} {W : World} {base : Nat} {v : Value} {d : DataW H} {ps : List MemPlace} (hpos : 0 < W.heap.size)
    (hok : Value.okWide P W .any base t v) (hflat : (match P.underlying t with | some (.int _) | some .bool | some (.slice _) | some (.struct _) => true | _ => false) = true)
    (hd : DataW.Trod enc P W 0 (fun _ => true) true t v d ps) {ρ : Emb} {h : AHeap} (hr : HRel W.heap.size ρ h W) (hn : NoOwn ρ h) :
    ∃ ρ' h' a x, Lay W ρ h ρ' h' ∧ VRel ρ' a v ∧ TV R h'.st a x := by
  obtain ⟨fuel, hd⟩ := hd
  obtain ⟨ρ', h', cells, x, l, r, q⟩ := ho.2.2 H enc W fuel _ _ hpos hd ρ h hr hn
  have scal : R.agg = false → v.cells = #[v] → (∀ cs, v ≠ .agg cs) → ∃ ρ' h' a x, Lay W ρ h ρ' h' ∧ VRel ρ' a v ∧ TV R h'.st a x := by
    intro hag e hna
    rw [e] at r
    cases cells with
    | nil => have := r.1; simp at this
    | cons c rest =>
      cases rest with
      | cons _ _ => have := r.1; simp at this
      | nil =>
        have hv : VRel ρ' c v := r.head
        refine ⟨ρ', h', c, x, l, hv, ?_⟩
        have : c.cells = [c] ∧ c.isAgg = false := by
          cases c with
          | agg cs => cases hv; exact absurd rfl (hna _)
          | _ => exact ⟨rfl, rfl⟩
        exact ⟨by rw [this.1]; exact q, by rw [this.2, hag]⟩
  split at hflat
  · rename_i k ht
    obtain ⟨n, rfl⟩ := WideShapes.okWide_int ht hok
    exact scal (by rw [ho.2.1, ht]) rfl (fun _ q => by cases q)
  · rename_i ht
    obtain ⟨n, rfl⟩ := WideShapes.okWide_bool ht hok
    exact scal (by rw [ho.2.1, ht]) rfl (fun _ q => by cases q)
  · rename_i ht
    obtain ⟨a, len, cap, rfl⟩ := WideShapes.okWide_slice ht hok
    exact scal (by rw [ho.2.1, ht]) rfl (fun _ q => by cases q)
  · rename_i fs ht
    simp only [Value.okWide, ht] at hok
    obtain ⟨cs, rfl, _⟩ := hok
    refine ⟨ρ', h', .agg cells, x, l, ?_, q, by rw [ho.2.1, ht]; rfl⟩
    exact .agg' (cs' := cs.toList) (by simpa [Value.cells] using r)
  · cases hflat

end

end Go.Ai
