/- An abstract interpreter for the model's code: new rows, slices, append, copy. -/
import Derived.Test.YtpiblfbidgcjaaaAiOps2
namespace Go.Ai

section
variable {T : Tab} {P : Program} (ok : T.Ok P) {base : Nat} {ρ : Emb} {h : AHeap} {w : World}

theorem ofVal_defd {v : Value} {z : AVal} (h : ofVal v = some z) : z ≠ .undef := by
  rintro rfl
  unfold ofVal at h
  split at h
  · cases hc : ofCells (_ : List Value) with
    | none => rw [hc] at h; cases h
    | some xs => rw [hc] at h; cases h
  · unfold ofCell at h
    split at h <;> first | (cases h; done) | (split at h <;> cases h)

/- a row of the run's own -/
theorem newRow_rel {cells : List AVal} {cc : Array Value} (hr : H0 base ρ h w) (hn : ρ h.next = none) (hc : LRel ρ cells (cc.toList.take cells.length)) (hlen : cells.length ≤ cc.size) (el : TypeId) (w' : World)
    (hw : w'.heap = w.heap.push (.cells cc el)) (h1 : w'.os = w.os) (h2 : w'.tape = w.tape) (h3 : w'.output = w.output) :
    H0 base (ρ.add h.next ⟨w.heap.size, 0, cc.size⟩) (h.push (.arr cells false)) w' ∧ Trans ρ h w (ρ.add h.next ⟨w.heap.size, 0, cc.size⟩) (h.push (.arr cells false)) w' := by
  refine push_rel hr hn (.arr cells false) (.cells cc el) w' cc.size hw h1 h2 h3 ?_
  refine ⟨cc, el, (0, 0), by rw [hw]; simp, rfl, by simp; exact hlen, ?_, fun _ => ⟨rfl, hr.base⟩⟩
  intro i v hv
  obtain ⟨v', hv', hvv⟩ := hc.at hv
  have hi : i < cells.length := (List.getElem?_eq_some_iff.1 hv).1
  rw [List.getElem?_take, if_pos hi, Array.getElem?_toList] at hv'
  exact ⟨v', by simpa using hv', hvv.mono (.add hn)⟩

theorem take_all {l : List Value} {n : Nat} (h : l.length ≤ n) : l.take n = l := List.take_of_length_le h

include ok in
theorem makeRow_ok {elem : TypeId} {len n : Nat} {cap : Option Nat} {v : AVal} {h' : AHeap} {parts : List (Nat × AVal)} {parts' : List (Nat × Value)} (hr : H0 base ρ h w) (hn : h'.next ≠ h.next → ρ h.next = none)
    (e1 : parts.length = parts'.length) (e2 : ∀ (i : Nat) p p', parts[i]? = some p → parts'[i]? = some p' → p.1 = p'.1 ∧ VRel ρ p.2 p'.2) (hcap : cap = some n) (hln : len ≤ n)
    (hl : amakeRow T elem len cap n h parts = some (v, h')) :
    ∃ j zv r', P.info? elem = some j ∧ j.zero = some zv ∧ 0 < j.size ∧ zv.cells.size = j.size ∧ Instr.fill (fun i => some (i * j.size, j.size)) ((Array.range (n * j.size)).map (fun i => zv.cells[i % zv.cells.size]!)) parts' = some r' ∧
      ∀ w' : World, w'.heap = w.heap.push (.cells r' elem) → w'.os = w.os → w'.tape = w.tape → w'.output = w.output →
        VRel (ρ.add h.next ⟨w.heap.size, 0, r'.size⟩) v (.slice (some ⟨w.heap.size, 0, none⟩) len n) ∧ H0 base (ρ.add h.next ⟨w.heap.size, 0, r'.size⟩) h' w' ∧ Trans ρ h w (ρ.add h.next ⟨w.heap.size, 0, r'.size⟩) h' w' := by
  unfold amakeRow at hl
  split at hl
  case h_2 => cases hl
  rename_i sz hsz
  split at hl
  · cases hl
  rename_i hsz0
  split at hl
  case h_2 => cases hl
  rename_i z hz
  split at hl
  case isFalse => cases hl
  rename_i hzl
  split at hl
  case h_2 => cases hl
  rename_i cells hfill
  cases hl
  obtain ⟨j, hj, hjs⟩ := ok.size hsz
  obtain ⟨j2, zv, hj2, hjz, hzv⟩ := ok.zero hz
  rw [hj] at hj2; cases hj2
  have hzc := (ofVal_rel ρ zv z hzv).cells (ofVal_defd hzv)
  have hzsz : zv.cells.size = sz := by have := hzc.1; simp at this; omega
  have hcop := copies_rel hzc (by omega) n
  rw [hzl] at hcop
  obtain ⟨r', hr', hrr⟩ := afill_ok (fun i => some (i * sz, sz)) parts parts' (copies n z.cells) _ cells e1 e2 hcop hfill
  subst hjs
  refine ⟨j, zv, r', hj, hjz, by omega, hzsz, hr', fun w' hw h1 h2 h3 => ?_⟩
  have hlr : cells.length = r'.size := by rw [hrr.1]; simp
  have hrel : LRel ρ cells (r'.toList.take cells.length) := by
    rw [take_all (by simp [hlr])]; exact hrr
  obtain ⟨a, b⟩ := newRow_rel hr (hn (by simp [AHeap.next_push])) hrel (by omega) elem w' hw h1 h2 h3
  have hsize : r'.size = n * j.size := by
    have hle : ∀ (ps : List (Nat × AVal)) (c r : List AVal), afill (fun i => some (i * j.size, j.size)) c ps = some r → r.length = c.length := by
      intro ps
      induction ps with
      | nil => intro c r hh; simp [afill] at hh; rw [hh]
      | cons p ps ih =>
        intro c r hh
        obtain ⟨pi, pv⟩ := p
        simp only [afill] at hh
        split at hh
        case isFalse => cases hh
        rename_i hc
        rw [ih _ _ hh, length_splice (by omega)]
    rw [← hlr, hle _ _ _ hfill, copies_length, hzl]
  refine ⟨.slice h.next 0 len j.size cap ⟨w.heap.size, 0, r'.size⟩ _ n (Emb.add_same _ _ _) hln (fun k hk => ?_) (.inr ⟨rfl, by simp [hsize]⟩), a, b⟩
  rw [hcap] at hk; cases hk; rfl

include ok in
theorem buildSlice_ok {t : TypeId} {len : Nat} {v : AVal} {h' : AHeap} {ev : Operand → AVal} {cev : Operand → Value} (hr : H0 base ρ h w) (hn : h'.next ≠ h.next → ρ h.next = none) (hev : ∀ x, VRel ρ (ev x) (cev x)) (parts : Array (Nat × Operand))
    (hl : abuildSlice T t len (evParts ev parts.toList) h = some (v, h')) : VOk P base ρ h w (Instr.buildSlice t len (parts.map fun (i, x) => (i, cev x))) v h' := by
  obtain ⟨e1, e2⟩ := evParts_at hev parts
  unfold abuildSlice at hl
  split at hl
  case h_2 => cases hl
  rename_i elem hu
  split at hl
  · cases hl
  rename_i hbig
  obtain ⟨j, zv, r', hj, hjz, h0, hzs, hfill, hend⟩ := makeRow_ok ok hr hn e1 e2 rfl (Nat.le_refl _) hl
  have hsz : szT T elem = some j.size := by
    unfold amakeRow at hl
    split at hl
    · rename_i sz hsz
      obtain ⟨j', hj', hjs'⟩ := ok.size hsz
      rw [hj] at hj'; cases hj'
      rw [hsz, hjs']
    · cases hl
  rw [hsz] at hbig
  simp only [Option.getD_some] at hbig
  obtain ⟨a, b, c⟩ := hend (w.alloc (.cells r' elem)) rfl rfl rfl rfl
  refine ⟨_, w.alloc (.cells r' elem), _, ?_, a, b, c⟩
  simp only [Instr.buildSlice, Sem.run_bind, run_underlying' (ok.und hu), Result.andThen_ok, run_sizeOf' hj, Sem.run_ite, if_neg hbig]
  by_cases hz0 : len * j.size = 0
  · simp only [if_pos hz0, Sem.run_pure, Result.andThen_ok]
    have e : ((Array.range (len * j.size)).map (fun i => (#[] : Array Value)[i % (#[] : Array Value).size]!)) = ((Array.range (len * j.size)).map (fun i => zv.cells[i % zv.cells.size]!)) := by
      rw [hz0]; simp
    rw [e, hfill]
    simp only [newRow, Sem.run_bind, run_newObj, Result.andThen_ok, Sem.run_pure]
    rfl
  · simp only [if_neg hz0, Sem.run_bind, run_zeroValue' hj hjz, Result.andThen_ok, Sem.run_pure]
    rw [hfill]
    simp only [newRow, Sem.run_bind, run_newObj, Result.andThen_ok, Sem.run_pure]
    rfl

include ok in
theorem makeSlice_ok {t : TypeId} {l c v : AVal} {l' c' : Value} {h' : AHeap} (hr : H0 base ρ h w) (hn : h'.next ≠ h.next → ρ h.next = none) (hx : VRel ρ l l') (hy : VRel ρ c c') (hl : amakeSlice T t l c h = some (v, h')) : VOk P base ρ h w (Instr.makeSlice t l' c') v h' := by
  unfold amakeSlice at hl
  split at hl
  case h_2 => cases hl
  rename_i elem l c hu
  cases hx; cases hy
  split at hl
  case h_2 => cases hl
  rename_i i hi
  split at hl
  case isFalse => cases hl
  rename_i hc
  obtain ⟨h0, hlc, hb, hm⟩ := hc
  obtain ⟨j, zv, r', hj, hjz, hs0, hzs, hfill, hend⟩ := makeRow_ok (parts' := []) ok hr hn rfl (by simp) rfl (by omega) hl
  obtain ⟨_, j2, hj2, _, hby, _⟩ := ok.types elem i hi
  rw [hj] at hj2; cases hj2
  have hrun := run_make (P := P) w t elem j zv (ok.und hu) hj hjz .i64 .i64 l c h0 hlc (by rw [hby]; omega) (by omega)
  simp only [Instr.fill, Option.some.injEq] at hfill
  obtain ⟨a, b, d⟩ := hend (w.alloc (.cells r' elem)) rfl rfl rfl rfl
  refine ⟨_, w.alloc (.cells r' elem), _, ?_, a, b, d⟩
  rw [hrun, ← hfill]
  rfl

/- the bounds of a slice expression -/
def ORel (ρ : Emb) (x : Option AVal) (x' : Option Value) : Prop := (x = none ∧ x' = none) ∨ ∃ v v', x = some v ∧ x' = some v' ∧ VRel ρ v v'

theorem bound_ok {x : Option AVal} {x' : Option Value} {dflt top n : Nat} (hx : ORel ρ x x') (hl : abound x dflt top = some n) :
    (x' = none ∧ x = none ∧ n = dflt) ∨ (∃ v', x' = some v' ∧ x.isSome = true ∧ n ≤ top ∧ ∀ top' code, n ≤ top' → (Instr.sliceBound v' top' code).run P w = .ok n w) := by
  unfold abound at hl
  rcases hx with ⟨rfl, rfl⟩ | ⟨v, v', rfl, rfl, hr⟩
  · simp at hl; exact .inl ⟨rfl, rfl, hl.symm⟩
  · cases hr
    all_goals (try (simp at hl; done))
    rename_i k i
    dsimp only at hl
    split at hl
    case isFalse => cases hl
    rename_i hb
    cases hl
    refine .inr ⟨_, rfl, rfl, by omega, fun top' code ht => ?_⟩
    have h1 : (0 ≤ i ∧ i ≤ (top' : Int)) := ⟨hb.1, by omega⟩
    simp [Instr.sliceBound, asIntOf, h1]

/- the three bounds, run -/
theorem bounds_run {isSlice : Bool} {len cap l hi m : Nat} {lo' hi' mx' : Option Value}
    (hm : (mx' = none ∧ m = cap) ∨ ∃ v, mx' = some v ∧ ∀ code, (Instr.sliceBound v cap code).run P w = .ok m w)
    (hh : (hi' = none ∧ mx' = none ∧ hi = len) ∨ ∃ v, hi' = some v ∧ ∀ code, (Instr.sliceBound v m code).run P w = .ok hi w)
    (hl : (lo' = none ∧ l = 0) ∨ ∃ v, lo' = some v ∧ ∀ code, (Instr.sliceBound v hi code).run P w = .ok l w) :
    (Instr.sliceBounds isSlice len cap lo' hi' mx').run P w = .ok (l, hi, m) w := by
  rcases hm with ⟨rfl, rfl⟩ | ⟨vm, rfl, hm⟩ <;> rcases hh with ⟨rfl, hx, rfl⟩ | ⟨vh, rfl, hh⟩ <;> rcases hl with ⟨rfl, rfl⟩ | ⟨vl, rfl, hl⟩
  all_goals (try (cases hx; done))
  all_goals simp [Instr.sliceBounds, *]

theorem slice_val {b off len es : Nat} {cap : Option Nat} {x' : Value} (hx : VRel ρ (.slice b off len es cap) x') {l hi m : Nat} {cap2 : Option Nat}
    (hlh : l ≤ hi) (hhm : hi ≤ m) (hm : ∀ (a : Addr) (ccap : Nat), x' = .slice (some a) len ccap → m ≤ ccap) (hc : ∀ k, cap2 = some k → m - l = k) :
    ∃ a ccap, x' = .slice (some a) len ccap ∧
      VRel ρ (.slice b (off + l * es) (hi - l) es cap2) (.slice (if m = l then (some a : Option Addr) else (some (a : Addr)).map (fun a => a.add (l * es))) (hi - l) (m - l)) := by
  cases hx with
  | slice _ _ _ _ _ lc a ccap hb hlen hcap hoff =>
  have hmc := hm a ccap rfl
  refine ⟨a, ccap, rfl, ?_⟩
  by_cases he : m = l
  · rw [if_pos he]
    exact .slice b _ _ _ _ lc a (m - l) hb (by omega) hc (.inl (by omega))
  · rw [if_neg he]
    rcases hoff with h0 | ⟨rfl, h2⟩
    · omega
    · simp only [Option.map_some, Addr.add_lit]
      refine .slice b _ _ _ _ lc _ (m - l) hb (by omega) hc (.inr ⟨by rw [Nat.add_assoc], ?_⟩)
      have h3 : l * es + (m - l) * es = m * es := by rw [← Nat.add_mul]; congr 1; omega
      have h4 : m * es ≤ ccap * es := Nat.mul_le_mul_right _ hmc
      omega

include ok in
theorem slice_ok {t : TypeId} {x v : AVal} {x' : Value} {lo hi mx : Option AVal} {lo' hi' mx' : Option Value} (hx : VRel ρ x x') (hlo : ORel ρ lo lo') (hhi : ORel ρ hi hi') (hmx : ORel ρ mx mx')
    (hl : aslice T t x lo hi mx = some v) : ∃ v', (Instr.sliceAt t x' lo' hi' mx').run P w = .ok v' w ∧ VRel ρ v v' := by
  unfold aslice at hl
  split at hl
  · rename_i elem b off len es cap hu
    split at hl
    case isFalse => cases hl
    rename_i hes
    obtain ⟨hsz, h0⟩ := hes
    obtain ⟨j, hj, hjs⟩ := ok.size hsz
    -- the end, once the three bounds are known
    have fin : ∀ (l hh m : Nat) (cap2 : Option Nat), l ≤ hh → hh ≤ m → (∀ (a : Addr) (ccap : Nat), x' = .slice (some a) len ccap → m ≤ ccap ∧ (Instr.sliceBounds true len ccap lo' hi' mx').run P w = .ok (l, hh, m) w) →
        (∀ k, cap2 = some k → m - l = k) → v = .slice b (off + l * es) (hh - l) es cap2 → ∃ v', (Instr.sliceAt t x' lo' hi' mx').run P w = .ok v' w ∧ VRel ρ v v' := by
      intro l hh m cap2 h1 h2 h3 h4 hv
      obtain ⟨a, ccap, hx', hrel⟩ := slice_val hx h1 h2 (fun a b d => (h3 a b d).1) h4
      subst hv
      refine ⟨_, ?_, hrel⟩
      have h5 := (h3 a ccap hx').2
      subst hx'
      simp only [Instr.sliceAt, Sem.run_bind, run_underlying' (ok.und hu), Result.andThen_ok, Instr.slice, h5, run_sizeOf' hj, hjs, Sem.run_pure]
    split at hl
    · -- cap unknown, no max
      split at hl
      case h_2 => cases hl
      rename_i hh hbh
      split at hl
      case h_2 => cases hl
      rename_i l hbl
      cases hl
      rcases hmx with ⟨_, rfl⟩ | ⟨_, _, hq, _⟩
      case inr => cases hq
      cases hx with
      | slice _ _ _ _ _ lc a ccap hb hlen hcap hoff =>
      have hhlen : hh ≤ len := by
        rcases bound_ok (P := P) (w := w) hhi hbh with ⟨_, _, e⟩ | ⟨_, _, _, e, _⟩ <;> omega
      have hllen : l ≤ hh := by
        rcases bound_ok (P := P) (w := w) hlo hbl with ⟨_, _, e⟩ | ⟨_, _, _, e, _⟩ <;> omega
      have hrel : VRel ρ (.slice b (off + l * es) (hh - l) es none) (.slice (if ccap = l then (some a : Option Addr) else (some (a : Addr)).map (fun a => a.add (l * es))) (hh - l) (ccap - l)) := by
        obtain ⟨a2, ccap2, he, hr⟩ := slice_val (m := ccap) (cap2 := none) (.slice b off len es none lc a ccap hb hlen hcap hoff) hllen (by omega) (fun _ _ e => by cases e; exact Nat.le_refl _) (fun k hk => by cases hk)
        cases he
        exact hr
      refine ⟨_, ?_, hrel⟩
      have hrun : (Instr.sliceBounds true len ccap lo' hi' none).run P w = .ok (l, hh, ccap) w := by
        refine bounds_run (.inl ⟨rfl, rfl⟩) ?_ ?_
        · rcases bound_ok (P := P) (w := w) hhi hbh with ⟨e1, _, e2⟩ | ⟨v', e1, _, _, e2⟩
          · exact .inl ⟨e1, rfl, e2⟩
          · exact .inr ⟨v', e1, fun code => e2 ccap code (by omega)⟩
        · rcases bound_ok (P := P) (w := w) hlo hbl with ⟨e1, _, e2⟩ | ⟨v', e1, _, _, e2⟩
          · exact .inl ⟨e1, e2⟩
          · exact .inr ⟨v', e1, fun code => e2 hh code hllen⟩
      simp only [Instr.sliceAt, Sem.run_bind, run_underlying' (ok.und hu), Result.andThen_ok, Instr.slice, hrun, run_sizeOf' hj, hjs, Sem.run_pure]
    · -- cap unknown, a max
      rename_i m0
      split at hl
      case h_2 => cases hl
      rename_i m' hbm
      split at hl
      case h_2 => split at hl <;> cases hl
      rename_i hi0
      split at hl
      case h_2 => cases hl
      rename_i hh hbh
      split at hl
      case h_2 => cases hl
      rename_i l hbl
      cases hl
      rcases bound_ok (P := P) (w := w) hmx hbm with ⟨_, e, _⟩ | ⟨vm, em, _, hml, hmr⟩
      · cases e
      rcases bound_ok (P := P) (w := w) hhi hbh with ⟨_, e, _⟩ | ⟨vh, eh, _, hhm, hhr⟩
      · cases e
      have hllen : l ≤ hh := by
        rcases bound_ok (P := P) (w := w) hlo hbl with ⟨_, _, e⟩ | ⟨_, _, _, e, _⟩ <;> omega
      refine fin l hh m' (some (m' - l)) hllen hhm (fun a ccap hx' => ?_) (fun k hk => by cases hk; rfl) rfl
      have hlc : len ≤ ccap := by
        rw [hx'] at hx
        cases hx with
        | slice _ _ _ _ _ lc a ccap hb hlen hcap hoff => exact hlen
      refine ⟨by omega, bounds_run (.inr ⟨vm, em, fun code => hmr ccap code (by omega)⟩) (.inr ⟨vh, eh, fun code => hhr m' code hhm⟩) ?_⟩
      rcases bound_ok (P := P) (w := w) hlo hbl with ⟨e1, _, e2⟩ | ⟨v', e1, _, _, e2⟩
      · exact .inl ⟨e1, e2⟩
      · exact .inr ⟨v', e1, fun code => e2 hh code hllen⟩
    · -- cap known
      rename_i c
      split at hl
      case h_2 => cases hl
      rename_i m' hbm
      split at hl
      case h_2 => cases hl
      rename_i hh hbh
      split at hl
      case h_2 => cases hl
      rename_i l hbl
      cases hl
      split at hbh
      · cases hbh
      rename_i hmh
      have hmc : m' ≤ c := by
        rcases bound_ok (P := P) (w := w) hmx hbm with ⟨_, _, e⟩ | ⟨_, _, _, e, _⟩ <;> omega
      have hllen : l ≤ hh := by
        rcases bound_ok (P := P) (w := w) hlo hbl with ⟨_, _, e⟩ | ⟨_, _, _, e, _⟩ <;> omega
      have hcc : ∀ (a : Addr) (ccap : Nat), x' = .slice (some a) len ccap → ccap = c ∧ len ≤ ccap := by
        intro a ccap hx'
        rw [hx'] at hx
        cases hx with
        | slice _ _ _ _ _ lc a ccap hb hlen hcap hoff => exact ⟨hcap _ rfl, hlen⟩
      have hx2 := hx
      cases hx2 with
      | slice _ _ _ _ _ lc0 off0 ccap0 hb0 hlen0 hcap0 hoff0 =>
      have hlc : len ≤ c := by have := hcap0 c rfl; omega
      have hhm : hh ≤ m' := by
        rcases bound_ok (P := P) (w := w) hhi hbh with ⟨_, e0, e⟩ | ⟨_, _, _, e, _⟩
        · rcases bound_ok (P := P) (w := w) hmx hbm with ⟨_, _, e'⟩ | ⟨_, _, e', _⟩
          · omega
          · simp [e', e0] at hmh
        · exact e
      refine fin l hh m' (some (m' - l)) hllen hhm (fun a ccap hx' => ?_) (fun k hk => by cases hk; rfl) rfl
      obtain ⟨e1, _⟩ := hcc a ccap hx'
      subst e1
      refine ⟨hmc, bounds_run ?_ ?_ ?_⟩
      · rcases bound_ok (P := P) (w := w) hmx hbm with ⟨e1, _, e2⟩ | ⟨v', e1, _, _, e2⟩
        · exact .inl ⟨e1, e2⟩
        · exact .inr ⟨v', e1, fun code => e2 _ code hmc⟩
      · rcases bound_ok (P := P) (w := w) hhi hbh with ⟨e1, e0, e2⟩ | ⟨v', e1, _, _, e2⟩
        · left
          refine ⟨e1, ?_, e2⟩
          rcases bound_ok (P := P) (w := w) hmx hbm with ⟨e3, _, _⟩ | ⟨_, _, e', _⟩
          · exact e3
          · simp [e', e0] at hmh
        · exact .inr ⟨v', e1, fun code => e2 _ code hhm⟩
      · rcases bound_ok (P := P) (w := w) hlo hbl with ⟨e1, _, e2⟩ | ⟨v', e1, _, _, e2⟩
        · exact .inl ⟨e1, e2⟩
        · exact .inr ⟨v', e1, fun code => e2 hh code hllen⟩
  · rename_i elem hu
    cases hx
    split at hl
    case h_2 => cases hl
    rename_i n hh l hn hbh hbl
    cases hl
    obtain ⟨j, hinf, _⟩ := ok.size hn
    rcases hmx with ⟨_, rfl⟩ | ⟨_, _, hq, _⟩
    case inr => cases hq
    have hh0 : hh = 0 := by rcases bound_ok (P := P) (w := w) hhi hbh with ⟨_, _, e⟩ | ⟨_, _, _, e, _⟩ <;> omega
    have hl0 : l = 0 := by rcases bound_ok (P := P) (w := w) hlo hbl with ⟨_, _, e⟩ | ⟨_, _, _, e, _⟩ <;> omega
    subst hh0 hl0
    have hrun : (Instr.sliceBounds true 0 0 lo' hi' none).run P w = .ok (0, 0, 0) w := by
      refine bounds_run (.inl ⟨rfl, rfl⟩) ?_ ?_
      · rcases bound_ok (P := P) (w := w) hhi hbh with ⟨e1, _, e2⟩ | ⟨v', e1, _, _, e2⟩
        · exact .inl ⟨e1, rfl, rfl⟩
        · exact .inr ⟨v', e1, fun code => e2 0 code (by omega)⟩
      · rcases bound_ok (P := P) (w := w) hlo hbl with ⟨e1, _, e2⟩ | ⟨v', e1, _, _, e2⟩
        · exact .inl ⟨e1, rfl⟩
        · exact .inr ⟨v', e1, fun code => e2 0 code (by omega)⟩
    refine ⟨.slice none 0 0, ?_, .nilslice⟩
    simp only [Instr.sliceAt, Sem.run_bind, run_underlying' (ok.und hu), Result.andThen_ok, Instr.slice, hrun, run_sizeOf' hinf, Sem.run_pure]
    simp
  · cases hl

end

end Go.Ai
