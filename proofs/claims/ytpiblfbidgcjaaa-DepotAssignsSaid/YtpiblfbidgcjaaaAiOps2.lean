/- An abstract interpreter for the model's code: addresses, parts, rows, slices. -/
import Derived.Test.YtpiblfbidgcjaaaAiEq
import Derived.Laws.Build
namespace Go.Ai

section
variable {T : Tab} {P : Program} (ok : T.Ok P) {base : Nat} {ρ : Emb} {h : AHeap} {w : World}

include ok in
theorem fieldAddr_ok {s : TypeId} {x v : AVal} {x' : Value} {i : Nat} (hx : VRel ρ x x') (hl : afieldAddr T s x i = some v) : ∃ v', (Instr.fieldAt s x' i).run P w = .ok v' w ∧ VRel ρ v v' := by
  unfold afieldAddr at hl
  split at hl
  case h_2 => cases hl
  rename_i fields hu
  split at hl
  case h_2 => cases hl
  rename_i f hf
  split at hl
  case h_2 => cases hl
  rename_i n b off hn
  split at hl
  · cases hl
  rename_i hn0
  cases hl
  cases hx with
  | ptr _ _ l hb =>
  obtain ⟨j, hj, hjs⟩ := ok.size hn
  refine ⟨.pointer (some ⟨l.c, l.o + (off + f.offset), none⟩), ?_, .ptr b (off + f.offset) l hb⟩
  simp only [Instr.fieldAt, Sem.run_bind, run_underlying' (ok.und hu), Result.andThen_ok, hf, Instr.sureAddr, Sem.run_pure, fieldPlace, run_sizeOf' hj, hjs, if_neg hn0, Addr.add_lit, Nat.add_assoc]

include ok in
theorem indexAddr_ok {t : TypeId} {x ix v : AVal} {x' ix' : Value} (hx : VRel ρ x x') (hi : VRel ρ ix ix') (hl : aindexAddr T t x ix = some v) : ∃ v', (Instr.indexAt t x' ix').run P w = .ok v' w ∧ VRel ρ v v' := by
  unfold aindexAddr at hl
  split at hl
  case h_2 => cases hl
  rename_i k i
  cases hi
  split at hl
  · rename_i len elem b off hu
    split at hl
    case h_2 => cases hl
    rename_i n hn
    split at hl
    case isFalse => cases hl
    rename_i hb
    cases hl
    cases hx with
    | ptr _ _ l hb' =>
    obtain ⟨j, hj, hjs⟩ := ok.size hn
    refine ⟨.pointer (some ⟨l.c, l.o + (off + i.toNat * n), none⟩), ?_, .ptr b _ l hb'⟩
    have h1 : (0 ≤ i ∧ i < (len : Int)) := hb
    simp only [Instr.indexAt, asIntOf, Sem.run_bind, Sem.run_pure, run_underlying' (ok.und hu), Result.andThen_ok, Instr.sureAddr, run_sizeOf' hj, hjs, if_pos h1, Sem.run_ite, Addr.add_lit, Nat.add_assoc]
  · rename_i elem b off len es cap hu
    split at hl
    case h_2 => cases hl
    rename_i n hn
    split at hl
    case isFalse => cases hl
    rename_i hb
    cases hl
    cases hx with
    | slice _ _ _ _ _ l a ccap hb' hlen hcap hoff =>
    obtain ⟨j, hj, hjs⟩ := ok.size hn
    have h1 : (0 ≤ i ∧ i < (len : Int)) := ⟨hb.1, hb.2.1⟩
    have h2 : a = ⟨l.c, l.o + off, none⟩ := by
      rcases hoff with h0 | ⟨h2, _⟩
      · omega
      · exact h2
    subst h2
    refine ⟨.pointer (some ⟨l.c, l.o + (off + i.toNat * n), none⟩), ?_, .ptr b _ l hb'⟩
    simp only [Instr.indexAt, asIntOf, Sem.run_bind, Sem.run_pure, run_underlying' (ok.und hu), Result.andThen_ok, run_sizeOf' hj, hjs, if_pos h1, Sem.run_ite, Addr.add_lit, Nat.add_assoc]
  · cases hl

include ok in
theorem index_ok {t : TypeId} {x ix v : AVal} {x' ix' : Value} (hx : VRel ρ x x') (hi : VRel ρ ix ix') (hl : aindex T t x ix = some v) : ∃ v', (Instr.index t x' ix').run P w = .ok v' w ∧ VRel ρ v v' := by
  unfold aindex at hl
  split at hl
  case h_2 => cases hl
  rename_i k i
  cases hi
  split at hl
  case h_2 => cases hl
  rename_i len elem cs hu
  split at hl
  case h_2 => cases hl
  rename_i n hn
  split at hl
  case isFalse => cases hl
  rename_i hb
  obtain ⟨cs', rfl, hcs⟩ := hx.agg_inv
  obtain ⟨j, hj, hjs⟩ := ok.size hn
  obtain ⟨v', hv', hvv⟩ := part_ok ok (w := w) hcs hl
  refine ⟨v', ?_, hvv⟩
  have h1 : (0 ≤ i ∧ i < (len : Int)) := hb
  simp only [Instr.index, asIntOf, Sem.run_bind, Sem.run_pure, run_underlying' (ok.und hu), Result.andThen_ok, run_sizeOf' hj, hjs, if_pos h1, Sem.run_ite]
  exact hv'

include ok in
theorem field_ok {t : TypeId} {x v : AVal} {x' : Value} {i : Nat} (hx : VRel ρ x x') (hl : afield T t x i = some v) : ∃ v', (Instr.field t x' i).run P w = .ok v' w ∧ VRel ρ v v' := by
  unfold afield at hl
  split at hl
  case h_2 => cases hl
  rename_i fields hu
  split at hl
  case h_2 => cases hl
  rename_i f cs hf
  obtain ⟨cs', rfl, hcs⟩ := hx.agg_inv
  obtain ⟨v', hv', hvv⟩ := part_ok ok (w := w) hcs hl
  refine ⟨v', ?_, hvv⟩
  simp only [Instr.field, Sem.run_bind, run_underlying' (ok.und hu), Result.andThen_ok, hf, asAgg, Sem.run_pure]
  exact hv'

include ok in
theorem convert_ok {src dst : TypeId} {x v : AVal} {x' : Value} (hx : VRel ρ x x') (hl : aconvert T src dst x = some v) : ∃ v', (convert src dst x').run P w = .ok v' w ∧ VRel ρ v v' := by
  unfold aconvert at hl
  split at hl
  case h_2 => cases hl
  rename_i d k k' n hs hu
  cases hl
  cases hx
  refine ⟨_, ?_, .int _ _⟩
  simp only [convert, Sem.run_bind, run_underlying' (ok.und hs), run_underlying' (ok.und hu), Result.andThen_ok]
  cases d <;> rfl

/- rows made anew -/
theorem copies_length (n : Nat) (z : List AVal) : (copies n z).length = n * z.length := by
  induction n with
  | zero => simp [copies]
  | succ n ih => simp [copies, ih, Nat.succ_mul]; omega

theorem copies_rel {ρ : Emb} {z : List AVal} {z' : Array Value} (hz : LRel ρ z z'.toList) (h0 : 0 < z.length) : ∀ n, LRel ρ (copies n z) ((Array.range (n * z.length)).map (fun i => z'[i % z'.size]!)).toList := by
  intro n
  have hs : z.length = z'.size := by rw [hz.1]; simp
  refine ⟨by simp [copies_length], ?_⟩
  intro i v v' hv hv'
  have hi : i < n * z.length := by rw [← copies_length]; exact (List.getElem?_eq_some_iff.1 hv).1
  have key : ∀ (n i : Nat), i < n * z.length → (copies n z)[i]? = z[i % z.length]? := by
    intro n
    induction n with
    | zero => intro i hi; simp at hi
    | succ n ih =>
      intro i hi
      simp only [copies]
      by_cases c : i < z.length
      · rw [List.getElem?_append_left c, Nat.mod_eq_of_lt c]
      · rw [List.getElem?_append_right (by omega), ih (i - z.length) (by rw [Nat.succ_mul] at hi; omega)]
        congr 1
        rw [← Nat.mod_eq_sub_mod (by omega)]
  rw [key n i hi] at hv
  have hr : (List.range (n * z.length))[i]? = some i := List.getElem?_range hi
  simp [hr] at hv'
  subst hv'
  have hm : i % z.length < z.length := Nat.mod_lt _ h0
  have := hz.2 (i % z.length) v (z'[i % z'.size]!) hv (by
    rw [hs] at hm ⊢
    rw [Array.getElem?_toList, Array.getElem?_eq_getElem hm]
    congr 1
    exact (getElem!_pos z' _ hm).symm)
  exact this

theorem fold_set (off : Nat) : ∀ (vs : List Value) (k : Nat) (a : Array Value), off + k + vs.length ≤ a.size →
    ((vs.zipIdx k).foldl (fun cs (x : Value × Nat) => cs.setIfInBounds (off + x.2) x.1) a).toList = a.toList.take (off + k) ++ vs ++ a.toList.drop (off + k + vs.length)
  | [], k, a, _ => by simp
  | v :: vs, k, a, h => by
    simp only [List.length_cons] at h
    simp only [List.zipIdx_cons, List.foldl_cons]
    rw [fold_set off vs (k + 1) _ (by simp; omega)]
    have hl : off + k < a.toList.length := by simp; omega
    have e1 : (a.setIfInBounds (off + k) v).toList = a.toList.set (off + k) v := by simp
    rw [e1, show off + (k + 1) = off + k + 1 from by omega]
    rw [List.take_add_one, List.take_set_of_le (Nat.le_refl _), List.getElem?_set_self hl, List.drop_set_of_lt (by omega)]
    simp [Nat.add_assoc, Nat.add_comm 1]

theorem afill_ok {ρ : Emb} (place : Nat → Option (Nat × Nat)) : ∀ (parts : List (Nat × AVal)) (parts' : List (Nat × Value)) (cells : List AVal) (cells' : Array Value) (r : List AVal),
    parts.length = parts'.length → (∀ (i : Nat) p p', parts[i]? = some p → parts'[i]? = some p' → p.1 = p'.1 ∧ VRel ρ p.2 p'.2) → LRel ρ cells cells'.toList →
    afill place cells parts = some r → ∃ r', Instr.fill place cells' parts' = some r' ∧ LRel ρ r r'.toList
  | [], parts', cells, cells', r, hlen, _, hc, h => by
    have : parts' = [] := List.eq_nil_of_length_eq_zero hlen.symm
    subst this
    simp only [afill] at h
    cases h
    exact ⟨cells', rfl, hc⟩
  | (i, v) :: rest, parts', cells, cells', r, hlen, hp, hc, h => by
    cases parts' with
    | nil => simp at hlen
    | cons p' rest' =>
      obtain ⟨i', v'⟩ := p'
      obtain ⟨h1, h3⟩ := hp 0 (i, v) (i', v') rfl rfl
      simp only at h1 h3
      subst h1
      simp only [afill] at h
      split at h
      · cases h
      rename_i off size hpl
      split at h
      case isFalse => cases h
      rename_i hc2
      have h2 : v ≠ .undef := by rintro rfl; simp [AVal.defd] at hc2
      have hv := h3.cells h2
      have hvl := hv.1
      have hcl := hc.1
      simp only [Array.length_toList] at hvl hcl
      have hfold : LRel ρ (splice cells off v.cells) ((v'.cells.zipIdx.foldl (fun cs (x : Value × Nat) => cs.setIfInBounds (off + x.2) x.1) cells')).toList := by
        have e : (v'.cells.zipIdx.foldl (fun cs (x : Value × Nat) => cs.setIfInBounds (off + x.2) x.1) cells').toList = cells'.toList.take off ++ v'.cells.toList ++ cells'.toList.drop (off + v'.cells.size) := by
          rw [← Array.foldl_toList, Array.toList_zipIdx]
          have := fold_set off v'.cells.toList 0 cells' (by simp; omega)
          simpa using this
        rw [e]
        unfold splice
        rw [hvl]
        exact ((hc.take off).append hv).append (hc.drop _)
      obtain ⟨r', hr', hrr⟩ := afill_ok place rest rest' (splice cells off v.cells) _ r (by simpa using hlen) (fun j p p' a b => hp (j + 1) p p' (by simpa using a) (by simpa using b)) hfold h
      refine ⟨r', ?_, hrr⟩
      simp only [Instr.fill, hpl]
      rw [if_neg (by simp; omega)]
      exact hr'

theorem evParts_at {ev : Operand → AVal} {cev : Operand → Value} (hev : ∀ x, VRel ρ (ev x) (cev x)) (parts : Array (Nat × Operand)) :
    (evParts ev parts.toList).length = (parts.map fun (i, x) => (i, cev x)).toList.length ∧
    ∀ (i : Nat) p p', (evParts ev parts.toList)[i]? = some p → ((parts.map fun (i, x) => (i, cev x)).toList)[i]? = some p' → p.1 = p'.1 ∧ VRel ρ p.2 p'.2 := by
  refine ⟨by simp [evParts], fun i p p' hp hp' => ?_⟩
  simp only [evParts, List.getElem?_map, Array.toList_map] at hp hp'
  cases hq : parts.toList[i]? with
  | none => rw [hq] at hp; cases hp
  | some q =>
    rw [hq] at hp hp'
    simp only [Option.map_some, Option.some.injEq] at hp hp'
    subst hp hp'
    exact ⟨rfl, hev q.2⟩

theorem aplaces_ok (ok : T.Ok P) : ∀ (fs : List Field) (pl : List (Nat × Nat)), aplaces T fs = some pl → ∀ w : World, (fs.mapM (fun f => do pure (f.offset, ← sizeOf f.type) : Field → Sem (Nat × Nat))).run P w = .ok pl w
  | [], pl, h, w => by simp [aplaces] at h; subst h; rfl
  | f :: fs, pl, h, w => by
    simp only [aplaces] at h
    cases hn : szT T f.type with
    | none => rw [hn] at h; cases h
    | some n =>
      cases hl : aplaces T fs with
      | none => rw [hn, hl] at h; cases h
      | some l =>
        rw [hn, hl] at h
        cases h
        obtain ⟨j, hj, hjs⟩ := ok.size hn
        have ih := aplaces_ok ok fs l hl w
        rw [List.mapM_cons]
        simp only [Sem.run_bind, run_sizeOf' hj, Result.andThen_ok, Sem.run_pure, hjs]
        rw [ih]
        rfl

include ok in
theorem build_ok {t : TypeId} {v : AVal} {ev : Operand → AVal} {cev : Operand → Value} (hev : ∀ x, VRel ρ (ev x) (cev x)) (parts : Array (Nat × Operand))
    (hl : abuild T t (evParts ev parts.toList) = some v) : ∃ v', (Instr.build t (parts.map fun (i, x) => (i, cev x))).run P w = .ok v' w ∧ VRel ρ v v' := by
  obtain ⟨e1, e2⟩ := evParts_at hev parts
  unfold abuild at hl
  split at hl
  case h_2 => cases hl
  rename_i z hz
  obtain ⟨j, zv, hj, hjz, hzv⟩ := ok.zero hz
  have hzr := ofVal_rel ρ zv z hzv
  have hzu : z ≠ .undef := by
    rintro rfl
    unfold ofVal at hzv
    split at hzv
    · cases hc : ofCells (_ : List Value) with
      | none => rw [hc] at hzv; cases hzv
      | some xs => rw [hc] at hzv; cases hzv
    · unfold ofCell at hzv
      split at hzv <;> first | (cases hzv; done) | (split at hzv <;> cases hzv)
  have hzc := hzr.cells hzu
  split at hl
  · rename_i fields hf
    split at hl
    case h_2 => cases hl
    rename_i places hp
    cases hfill : afill (fun i => places[i]?) z.cells (evParts ev parts.toList) with
    | none => rw [hfill] at hl; cases hl
    | some r =>
      rw [hfill] at hl
      cases hl
      obtain ⟨r', hr', hrr⟩ := afill_ok (fun i => places[i]?) _ _ _ _ r e1 e2 hzc hfill
      refine ⟨.agg r', ?_, by have := VRel.agg' hrr; simpa using this⟩
      have hm := aplaces_ok ok fields.toList places hp w
      have hm' : (fields.mapM (fun f => do pure (f.offset, ← sizeOf f.type) : Field → Sem (Nat × Nat))).run P w = .ok places.toArray w := by
        rw [Array.mapM_eq_mapM_toList]
        simp only [Sem.run_map, hm, Result.andThen_ok]
      simp only [Instr.build, Sem.run_bind, run_zeroValue' hj hjz, Result.andThen_ok, run_underlying' (ok.und hf), hm']
      have e3 : (fun (x : Nat) => places.toArray[x]?) = (fun (i : Nat) => places[i]?) := by funext x; simp
      rw [e3]
      simp only [hr', Sem.run_pure]
  · rename_i len elem hf
    split at hl
    case h_2 => cases hl
    rename_i n hn
    cases hfill : afill (fun i => some (i * n, n)) z.cells (evParts ev parts.toList) with
    | none => rw [hfill] at hl; cases hl
    | some r =>
      rw [hfill] at hl
      cases hl
      obtain ⟨r', hr', hrr⟩ := afill_ok (fun i => some (i * n, n)) _ _ _ _ r e1 e2 hzc hfill
      refine ⟨.agg r', ?_, by have := VRel.agg' hrr; simpa using this⟩
      obtain ⟨j', hj', hjs⟩ := ok.size hn
      simp only [Instr.build, Sem.run_bind, run_zeroValue' hj hjz, Result.andThen_ok, run_underlying' (ok.und hf), run_sizeOf' hj', hjs, hr', Sem.run_pure]
  · cases hl

end

end Go.Ai
