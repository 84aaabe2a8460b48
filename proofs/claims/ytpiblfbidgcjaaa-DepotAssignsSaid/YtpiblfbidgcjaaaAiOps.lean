/- An abstract interpreter for the model's code: each operation does to the model's memory what its abstract twin does to the abstract heap. -/
import Derived.Test.YtpiblfbidgcjaaaAiHeap
import Derived.Laws.StructEq
namespace Go.Ai

section
variable {T : Tab} {P : Program} (ok : T.Ok P) {base : Nat} {ρ : Emb} {h : AHeap} {w : World}

theorem arr_at (hr : H0 base ρ h w) {b : Nat} {l : Loc} {cells : List AVal} {ro : Bool} (hb : ρ b = some l) (hg : h.get b = some (.arr cells ro)) :
    ∃ cc el fz, w.heap[l.c]? = some (.cells cc el fz) ∧ cc.size = l.n ∧ l.o + cells.length ≤ l.n ∧ LRel ρ cells ((cc.toList.drop l.o).take cells.length) ∧ (ro = false → fz = (0, 0) ∧ base ≤ l.c) := by
  have hblk := hr.blk b l hb
  rw [hg] at hblk
  obtain ⟨cc, el, fz, h1, h2, h3, h4, h5⟩ := hblk
  refine ⟨cc, el, fz, h1, h2, h3, ⟨?_, ?_⟩, h5⟩
  · rw [List.length_take, List.length_drop]
    have : cc.toList.length = cc.size := rfl
    omega
  · intro i v v' hv hv'
    obtain ⟨u, hu, hvu⟩ := h4 i v hv
    have hi : i < cells.length := (List.getElem?_eq_some_iff.1 hv).1
    rw [List.getElem?_take, if_pos hi, List.getElem?_drop, Array.getElem?_toList, hu] at hv'
    cases hv'; exact hvu

/- a piece of a row -/
theorem piece_rel {ρ : Emb} {cells : List AVal} {cc : Array Value} {o : Nat} (hl : LRel ρ cells ((cc.toList.drop o).take cells.length)) (off n : Nat) (hn : off + n ≤ cells.length) (_hc : o + cells.length ≤ cc.size) :
    LRel ρ ((cells.drop off).take n) ((cc.toList.drop (o + off)).take n) := by
  have := (hl.drop off).take n
  have e : ((((cc.toList.drop o).take cells.length).drop off).take n) = ((cc.toList.drop (o + off)).take n) := by
    rw [List.drop_take, List.drop_drop, List.take_take]
    congr 1
    omega
  rw [e] at this
  exact this

theorem cells_of_row (w : World) (c o n : Nat) (cc : Array Value) (el : TypeId) (fz : Nat × Nat) (hg : w.heap[c]? = some (.cells cc el fz)) :
    ∀ j v, ((cc.toList.drop o).take n)[j]? = some v → w.cell? ((⟨c, o, none⟩ : Addr).add j) = some v := by
  intro j v hv
  rw [Addr.add_lit, cell_of_row w c (o + j) cc el fz hg]
  rw [List.getElem?_take] at hv
  split at hv
  · rw [List.getElem?_drop, Array.getElem?_toList] at hv; exact hv
  · cases hv

theorem run_loadRow (w : World) (c o n : Nat) (cc : Array Value) (el : TypeId) (fz : Nat × Nat) (hg : w.heap[c]? = some (.cells cc el fz)) (hn : o + n ≤ cc.size) :
    (loadCells ⟨c, o, none⟩ n).run P w = .ok ((cc.toList.drop o).take n).toArray w := by
  have h := run_loadCells_list (P := P) w ⟨c, o, none⟩ ((cc.toList.drop o).take n) (cells_of_row w c o n cc el fz hg)
  have e : ((cc.toList.drop o).take n).length = n := by rw [List.length_take, List.length_drop, Array.length_toList]; omega
  rw [e] at h
  exact h

include ok in
theorem load_ok {t : TypeId} {a v : AVal} {a' : Value} (hr : H0 base ρ h w) (ha : VRel ρ a a') (hl : aload T t h a = some v) : VOk P base ρ h w (Instr.loadAt t a') v h := by
  unfold aload at hl
  split at hl
  case h_2 => cases hl
  rename_i b off
  cases ha with
  | ptr _ _ l hb =>
  split at hl
  case h_2 => cases hl
  rename_i cells ro hg
  obtain ⟨cc, el, fz, h1, h2, h3, h4, h5⟩ := arr_at hr hb hg
  unfold apart at hl
  split at hl
  · rename_i hagg
    split at hl
    · rename_i n hn
      split at hl
      · rename_i hle
        cases hl
        obtain ⟨j, hj, hjs⟩ := ok.size hn
        refine .pure (v' := .agg ((cc.toList.drop (l.o + off)).take n).toArray) hr ?_ (.agg' (piece_rel h4 off n hle (by omega)))
        simp only [Instr.loadAt, Instr.sureAddr, loadVar, Sem.run_bind, Sem.run_pure, Result.andThen_ok, run_isAgg' ok hagg, if_true, run_sizeOf' hj, hjs]
        rw [run_loadRow w l.c (l.o + off) n cc el fz h1 (by omega)]
        rfl
      · cases hl
    · cases hl
  · rename_i hagg
    have hi : off < cells.length := (List.getElem?_eq_some_iff.1 hl).1
    obtain ⟨v', hv', hvv⟩ := h4.at hl
    rw [List.getElem?_take, if_pos hi, List.getElem?_drop, Array.getElem?_toList] at hv'
    refine .pure (v' := v') hr ?_ hvv
    simp only [Instr.loadAt, Instr.sureAddr, loadVar, Sem.run_bind, Sem.run_pure, Result.andThen_ok, run_isAgg' ok hagg, Bool.false_eq_true, if_false, run_load]
    rw [cell_of_row w l.c (l.o + off) cc el fz h1, hv']
  · cases hl

/- a row written over -/
theorem splice_rel {ρ : Emb} {cells : List AVal} {cc : Array Value} {o off : Nat} {vs : List AVal} {vs' : List Value} (hl : LRel ρ cells ((cc.toList.drop o).take cells.length)) (hc : o + cells.length ≤ cc.size)
    (hv : LRel ρ vs vs') (hle : off + vs.length ≤ cells.length) :
    ∀ (i : Nat) (v : AVal), (splice cells off vs)[i]? = some v → ∃ v', ((cc.toList.take (o + off) ++ vs' ++ cc.toList.drop (o + off + vs'.length)).toArray)[o + i]? = some v' ∧ VRel ρ v v' := by
  intro i v hi
  have hlen := hv.1
  unfold splice at hi
  have e1 : (cells.take off).length = off := by rw [List.length_take]; omega
  have e2 : (cc.toList.take (o + off)).length = o + off := by rw [List.length_take, Array.length_toList]; omega
  simp only [List.getElem?_toArray]
  rw [List.append_assoc] at hi ⊢
  by_cases c1 : i < off
  · rw [List.getElem?_append_left (by omega), List.getElem?_take, if_pos c1] at hi
    obtain ⟨v', hv', hvv⟩ := hl.at hi
    rw [List.getElem?_take, if_pos (by omega), List.getElem?_drop] at hv'
    refine ⟨v', ?_, hvv⟩
    rw [List.getElem?_append_left (by omega), List.getElem?_take, if_pos (by omega)]
    exact hv'
  · rw [List.getElem?_append_right (by omega), e1] at hi
    by_cases c2 : i - off < vs.length
    · rw [List.getElem?_append_left c2] at hi
      obtain ⟨v', hv', hvv⟩ := hv.at hi
      refine ⟨v', ?_, hvv⟩
      rw [List.getElem?_append_right (by omega), e2, List.getElem?_append_left (by omega)]
      rw [show o + i - (o + off) = i - off from by omega]
      exact hv'
    · rw [List.getElem?_append_right (by omega), List.getElem?_drop] at hi
      have hi' : i < cells.length := by have := (List.getElem?_eq_some_iff.1 hi).1; omega
      rw [show off + vs.length + (i - off - vs.length) = i from by omega] at hi
      obtain ⟨v', hv', hvv⟩ := hl.at hi
      rw [List.getElem?_take, if_pos hi', List.getElem?_drop] at hv'
      refine ⟨v', ?_, hvv⟩
      rw [List.getElem?_append_right (by omega), e2, List.getElem?_append_right (by omega), List.getElem?_drop]
      rw [show o + off + vs'.length + (o + i - (o + off) - vs'.length) = o + i from by omega]
      exact hv'

theorem length_splice {cells vs : List AVal} {off : Nat} (hle : off + vs.length ≤ cells.length) : (splice cells off vs).length = cells.length := by
  unfold splice; simp; omega

theorem one_list {ρ : Emb} : ∀ {vs : List AVal} {vs' : List Value}, LRel ρ vs vs' → vs.all AVal.one = true → ∀ v ∈ vs', v.oneCell' = true
  | [], vs', h, _, v, hv => by rw [h.nil_inv] at hv; cases hv
  | x :: xs, vs', h, ho, v, hv => by
    obtain ⟨y, ys, rfl, h1, h2⟩ := h.cons_inv
    simp only [List.all_cons, Bool.and_eq_true] at ho
    rcases List.mem_cons.1 hv with rfl | hm
    · have := h1.one ho.1
      cases v <;> first | rfl | exact this
    · exact one_list h2 ho.2 v hm

/- cells stored into an owned row -/
theorem storeRow_ok {b : Nat} {l : Loc} {cells : List AVal} {off : Nat} {vs : List AVal} {vs' : List Value} (hr : H0 base ρ h w) (hb : ρ b = some l) (hg : h.get b = some (.arr cells false))
    (hv : LRel ρ vs vs') (hle : off + vs.length ≤ cells.length) (hone : vs.all AVal.one = true) :
    ∃ w', (storeCells ⟨l.c, l.o + off, none⟩ vs').run P w = .ok () w' ∧ H0 base ρ (h.set b (.arr (splice cells off vs) false)) w' ∧ Trans ρ h w ρ (h.set b (.arr (splice cells off vs) false)) w' := by
  obtain ⟨cc, el, fz, h1, h2, h3, h4, h5⟩ := arr_at hr hb hg
  obtain ⟨rfl, hbase⟩ := h5 rfl
  have hst := run_storeCells_at P l.c (l.o + off) el vs' 0 cc w h1 (by have := hv.1; omega) (one_list hv hone)
  simp only [Nat.add_zero] at hst
  have ho : Owns h b := by unfold Owns; rw [hg]; trivial
  refine ⟨_, hst, ?_⟩
  refine set_rel hr hb ho _ _ (by simp) (fun k hk => setRow_other w l.c k _ hk) rfl rfl rfl ?_ (by rw [hg]; simp)
  refine ⟨_, el, (0, 0), setRow_heap w l.c cc _ el _ h1, ?_, ?_, splice_rel h4 (by omega) hv hle, fun _ => ⟨rfl, hbase⟩⟩
  · have := hv.1
    simp; omega
  · rw [length_splice hle]; omega

include ok in
theorem store_ok {t : TypeId} {a v : AVal} {a' v' : Value} {h' : AHeap} (hr : H0 base ρ h w) (ha : VRel ρ a a') (hv : VRel ρ v v') (hl : astore T t h a v = some h') : UOk P base ρ h w (Instr.storeAt t a' v') h' := by
  unfold astore at hl
  split at hl
  case h_2 => cases hl
  rename_i b off
  cases ha with
  | ptr _ _ l hb =>
  split at hl
  case h_2 => cases hl
  rename_i cells hg
  split at hl
  case h_2 => cases hl
  rename_i n hn
  split at hl
  case isFalse => cases hl
  rename_i hc
  obtain ⟨hc1, hc2, hc3⟩ := hc
  cases hl
  obtain ⟨j, hj, hjs⟩ := ok.size hn
  have hu : v ≠ .undef := by
    rintro rfl
    simp [AVal.cells, AVal.one] at hc3
  have hcs := hv.cells hu
  obtain ⟨w', hst, hr', htr⟩ := storeRow_ok (P := P) (off := off) hr hb hg hcs (by omega) hc3
  refine ⟨w', ρ, ?_, hr', htr⟩
  have hlen := hcs.1
  have hsz : v'.cells.size = n := by rw [← hc1, hlen]; simp
  simp only [Instr.storeAt, Instr.sureAddr, storeVar, Sem.run_bind, Sem.run_pure, Result.andThen_ok, run_sizeOf' hj, hjs, hsz, ne_eq, not_true_eq_false, if_false]
  exact hst

/- numbers -/
def cval : AVal → Value
  | .int k n => .int k n
  | .bool b => .bool b
  | _ => undef

theorem aint_ok {op : BinOp} {k : IntKind} {a b : Int} {v : AVal} (t : TypeId) (hl : aint op k a b = some v) :
    (binOp op t (.int k a) (.int k b)).run P w = .ok (cval v) w ∧ VRel ρ v (cval v) := by
  cases op <;> simp only [aint] at hl <;> (try split at hl) <;> (try cases hl)
  all_goals refine ⟨?_, by first | exact .int _ _ | exact .bool _⟩
  all_goals simp only [binOp, cval]
  all_goals first
    | (simp [Op.intArith]; done)
    | (simp [Op.intCmp]; done)
    | (simp [Op.intDiv, *]; done)
    | (simp [Op.intBits]; done)
    | (simp [Op.shift, *]; done)

include ok in
theorem part_ok {t : TypeId} {cs : List AVal} {cs' : Array Value} {off : Nat} {v : AVal} (hc : LRel ρ cs cs'.toList) (hl : apart T t cs off = some v) :
    ∃ v', (part t cs' off).run P w = .ok v' w ∧ VRel ρ v v' := by
  unfold apart at hl
  split at hl
  · rename_i hagg
    split at hl
    case h_2 => cases hl
    rename_i n hn
    split at hl
    case isFalse => cases hl
    cases hl
    obtain ⟨j, hj, hjs⟩ := ok.size hn
    refine ⟨.agg (cs'.extract off (off + n)), ?_, ?_⟩
    · simp [part, run_isAgg' ok hagg, run_sizeOf' hj, hjs]
    · have := VRel.agg' ((hc.drop off).take n)
      have e : ((cs'.toList.drop off).take n).toArray = cs'.extract off (off + n) := by
        apply Array.ext'
        simp [Array.toList_extract, List.extract_eq_take_drop]
      rw [e] at this
      exact this
  · rename_i hagg
    obtain ⟨v', hv', hvv⟩ := hc.at hl
    refine ⟨v', ?_, hvv⟩
    rw [Array.getElem?_toList] at hv'
    simp [part, run_isAgg' ok hagg, hv']
  · cases hl

end

end Go.Ai
