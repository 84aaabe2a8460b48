/- An abstract interpreter for the model's code: append, copy, len, maps, max and min. -/
import Derived.Test.YtpiblfbidgcjaaaAiOps3
namespace Go.Ai

section
variable {T : Tab} {P : Program} (ok : T.Ok P) {base : Nat} {ρ : Emb} {h : AHeap} {w : World}

/- the first n elements of a slice, as the model finds them -/
theorem row_ok {es n : Nat} {x : AVal} {x' : Value} {news : List AVal} (hr : H0 base ρ h w) (hx : VRel ρ x x') (hes : 0 < es) (hl : arow es n x h = some news) :
    news.length = n * es ∧ ∃ news', LRel ρ news news' ∧
      ((x' = .slice none 0 0 ∧ n = 0 ∧ news' = []) ∨ ∃ a len c, x' = .slice (some a) len c ∧ n ≤ len ∧ (x = .nilslice → False) ∧ ∀ (w' : World), w'.heap = w.heap → ∀ j v, news'[j]? = some v → w'.cell? (a.add j) = some v) := by
  unfold arow at hl
  split at hl
  · split at hl
    · rename_i hn; cases hl; subst hn
      cases hx
      exact ⟨by simp, [], .nil _, .inl ⟨rfl, rfl, rfl⟩⟩
    · cases hl
  · rename_i b off len es' cap
    split at hl
    · rename_i hn0
      split at hl
      case isFalse => cases hl
      rename_i hes'
      cases hl
      subst hn0 hes'
      cases hx with
      | slice _ _ _ _ _ l a0 ccap hb hlen hcap hoff =>
      exact ⟨by simp, [], .nil _, .inr ⟨_, len, ccap, rfl, Nat.zero_le _, by simp, by simp⟩⟩
    rename_i hn0
    split at hl
    case isFalse => cases hl
    rename_i hc
    obtain ⟨rfl, hn⟩ := hc
    split at hl
    case h_2 => cases hl
    rename_i cells ro hg
    split at hl
    case isFalse => cases hl
    rename_i hle
    cases hl
    cases hx with
    | slice _ _ _ _ _ l a0 ccap hb hlen hcap hoff =>
    obtain ⟨cc, el, fz, h1, h2, h3, h4, h5⟩ := arr_at hr hb hg
    refine ⟨by simp; omega, (cc.toList.drop (l.o + off)).take (n * es'), piece_rel h4 off _ hle (by omega), .inr ⟨_, len, ccap, rfl, hn, by simp, ?_⟩⟩
    intro w' hw j v hv
    rcases hoff with h0 | ⟨h6, h7⟩
    · have : n = 0 := by omega
      subst this
      simp at hv
    · subst h6
      have := cells_of_row w' l.c (l.o + off) (n * es') cc el fz (by rw [hw]; exact h1) j v hv
      exact this
  · cases hl

theorem grown_size (w : World) (need old : Nat) (e : TypeId) : need ≤ grownCap w need old e := grownCap_ge w need old e

include ok in
theorem append_ok {argTypes : Array TypeId} {ty : TypeId} {s x v : AVal} {s' x' : Value} {h' : AHeap} (hr : H0 base ρ h w) (hfr : h'.next ≠ h.next → ρ h.next = none) (hs : VRel ρ s s') (hx : VRel ρ x x') (hl : aappend T argTypes s x h = some (v, h')) :
    VOk P base ρ h w (Builtin.append_ argTypes ty #[s', x']) v h' := by
  unfold aappend at hl
  split at hl
  case h_2 => cases hl
  rename_i st xt hat
  have hat' : argTypes = #[st, xt] := by apply Array.ext'; simpa using hat
  subst hat'
  split at hl
  · cases hl
  rename_i hst
  simp only [ne_eq, Decidable.not_not] at hst
  subst hst
  split at hl
  case h_2 => cases hl
  rename_i elem hu
  split at hl
  case h_2 => cases hl
  rename_i i hi
  obtain ⟨_, j, hj, hjs, hjb, hjz, _⟩ := ok.types elem i hi
  simp only at hl
  split at hl
  · cases hl
  rename_i z hz
  have hiz : i.zero = some z := by unfold zeroT at hz; rw [hi] at hz; exact hz
  obtain ⟨zv, hz1, hz2⟩ := hjz z hiz
  split at hl
  · cases hl
  rename_i hes
  have hes0 : 0 < i.size := by omega
  have hzl : z.cells.length = i.size := by omega
  have hzc : zv.cells.size = j.size := by
    have := ((ofVal_rel ρ zv z hz2).cells (ofVal_defd hz2)).1
    simp at this; omega
  split at hl
  case h_2 => cases hl
  rename_i news hrow
  generalize hn : lenOf x = n at hl hrow
  obtain ⟨hnl, news', hnr, hcase⟩ := row_ok hr hx hes0 hrow
  have hnl' : news'.length = n * j.size := by rw [← hnr.1, hnl, hjs]
  split at hl
  · -- s is nil
    cases hs
    split at hl
    · rename_i hn0
      cases hl
      refine ⟨.slice none 0 0, w, ρ, ?_, .nilslice, hr, .refl _ _ _⟩
      rcases hcase with ⟨rfl, _, _⟩ | ⟨a, len, c, rfl, hle, _, hcell⟩
      · simp [Builtin.append_, run_underlying' (ok.und hu), run_sizeOf' hj, Builtin.lenOf, Builtin.firstCells]
      · have hlen : len = n := by
          cases hx with
          | undef => simp [arow] at hrow
          | slice => exact hn
        subst hlen
        subst hn0
        have hf := run_firstCells_some (P := P) w j.size 0 a 0 c [] (by simp) (by simp)
        simp [Builtin.append_, run_underlying' (ok.und hu), run_sizeOf' hj, Builtin.lenOf, hf]
    · rename_i hn0
      split at hl
      case isFalse => cases hl
      rename_i hb
      cases hl
      rcases hcase with ⟨rfl, hq, _⟩ | ⟨a, len, c, rfl, hle, hxn, hcell⟩
      · omega
      have hlen : len = n := by
        cases hx with
        | undef => simp [arow] at hrow
        | slice => exact hn
      subst hlen
      have hrun := run_append_nil (P := P) w st ty elem j zv (ok.und hu) hj hz1 a len c news' hnl' (hcell w rfl) (by omega) (by omega) (by rw [hjb]; omega)
      generalize hcap : grownCap w len 0 elem = ncap at hrun
      have hge : len ≤ ncap := by rw [← hcap]; exact grownCap_ge _ _ _ _
      have hsize : (news'.toArray ++ Builtin.zeroCells zv.cells (ncap - len)).size = ncap * j.size := by
        simp only [Array.size_append, List.size_toArray, size_zeroCells, hzc, hnl', ← Nat.add_mul]; congr 1; omega
      obtain ⟨a1, a2⟩ := newRow_rel (cc := news'.toArray ++ Builtin.zeroCells zv.cells (ncap - len)) hr (hfr (by simp [AHeap.next_push])) (cells := news) (by simpa [hnr.1] using hnr) (by rw [hsize, hnl, hjs]; exact Nat.mul_le_mul_right _ hge) elem
        (w.drew.alloc (.cells (news'.toArray ++ Builtin.zeroCells zv.cells (ncap - len)) elem)) rfl rfl rfl rfl
      refine ⟨_, _, _, hrun, ?_, a1, a2⟩
      refine .slice h.next 0 len i.size none ⟨w.heap.size, 0, _⟩ _ ncap (Emb.add_same _ _ _) hge (fun k hk => by cases hk) (.inr ⟨rfl, ?_⟩)
      simp only [hsize, hjs]; omega
  · -- s is a slice
    rename_i b off len es' cap
    split at hl
    case isFalse => cases hl
    rename_i hc
    obtain ⟨rfl, hbytes, hmax⟩ := hc
    split at hl
    case h_2 => cases hl
    rename_i cells ro hg
    have hs2 := hs
    cases hs2 with
    | slice _ _ _ _ _ l a0 ccap hb hlen hcap hoff =>
    obtain ⟨cc, el, fz, hw1, hw2, hw3, hw4, hw5⟩ := arr_at hr hb hg
    -- the source, where there is one
    have src : ∃ a c, (0 < n → x' = .slice (some a) n c ∧ ∀ (w' : World), w'.heap = w.heap → ∀ j v, news'[j]? = some v → w'.cell? (a.add j) = some v) := by
      rcases hcase with ⟨_, hq, _⟩ | ⟨a, len2, c, rfl, hle, hxn, hcell⟩
      · exact ⟨⟨0, 0, none⟩, 0, fun q => by omega⟩
      · refine ⟨a, c, fun _ => ⟨?_, hcell⟩⟩
        cases hx with
        | undef => simp [arow] at hrow
        | slice => simp only [lenOf] at hn; rw [hn]
    -- n = 0: the very slice
    have zero : n = 0 → (Builtin.append_ #[st, st] ty #[.slice (some a0) len ccap, x']).run P w = .ok (.slice (some a0) len ccap) w := by
      intro hn0
      rcases hcase with ⟨rfl, _, _⟩ | ⟨a, len2, c, rfl, hle, _, hcell⟩
      · simp [Builtin.append_, run_underlying' (ok.und hu), run_sizeOf' hj, Builtin.lenOf, Builtin.firstCells, hlen, storeCells]
      · have hlen2 : len2 = 0 := by
          cases hx with
          | undef => simp [arow] at hrow
          | slice => simp only [lenOf] at hn; omega
        subst hlen2
        have hf := run_firstCells_some (P := P) w j.size 0 a 0 c [] (by simp) (by simp)
        simp [Builtin.append_, run_underlying' (ok.und hu), run_sizeOf' hj, Builtin.lenOf, hf, hlen, storeCells]
    -- there is room: in place
    have room : len + n ≤ ccap → fz = (0, 0) → base ≤ l.c → news.all AVal.one = true → ccap ≠ 0 → (Builtin.append_ #[st, st] ty #[.slice (some a0) len ccap, x']).run P w =
        .ok (.slice (some a0) (len + n) ccap) (w.setRow l.c (cc.toList.take (l.o + (off + len * i.size)) ++ news' ++ cc.toList.drop (l.o + (off + len * i.size) + news'.length)).toArray) := by
      intro hroom hfz hbase hone hc0
      subst hfz
      rcases hoff with h0 | ⟨ho, hfit⟩
      · omega
      subst ho
      have hst := run_storeCells_at P l.c (l.o + (off + len * i.size)) el news' 0 cc w hw1 (by
        rw [hnl', hjs]
        have h1 : (len + n) * i.size ≤ ccap * i.size := Nat.mul_le_mul_right _ hroom
        rw [Nat.add_mul] at h1
        omega) (one_list hnr hone)
      simp only [Nat.add_zero] at hst
      by_cases hn0 : n = 0
      · subst hn0
        have e : news' = [] := List.eq_nil_of_length_eq_zero (by rw [hnl']; simp)
        subst e
        rw [zero rfl]
        have e2 : w.setRow l.c (cc.toList.take (l.o + (off + len * i.size)) ++ [] ++ cc.toList.drop (l.o + (off + len * i.size) + ([] : List Value).length)).toArray = w := by
          simp only [List.append_nil, List.length_nil, Nat.add_zero, List.take_append_drop, Array.toArray_toList]
          exact setRow_self w l.c cc el (0, 0) hw1
        rw [e2]; rfl
      · obtain ⟨a, c, hsrc⟩ := src
        obtain ⟨rfl, hcell⟩ := hsrc (by omega)
        have hf := run_firstCells_some (P := P) w j.size n a n c news' hnl' (hcell w rfl)
        rw [hjs] at hf
        simp [Builtin.append_, run_underlying' (ok.und hu), run_sizeOf' hj, Builtin.lenOf, hroom, hf, Addr.add_lit, hjs, Nat.add_assoc] at hst ⊢
        rw [hst]
        rfl
    -- there is none: a new row
    have grow : ccap < len + n → off + len * i.size ≤ cells.length → ∃ v' w' ρ', (Builtin.append_ #[st, st] ty #[.slice (some a0) len ccap, x']).run P w = .ok v' w' ∧
        ∀ h2 : AHeap, h2.next = h.next → H0 base ρ h2 w → ρ h.next = none → VRel ρ' (.slice h.next 0 (len + n) i.size none) v' ∧ H0 base ρ' (h2.push (.arr ((cells.drop off).take (len * i.size) ++ news) false)) w' ∧ Trans ρ h2 w ρ' (h2.push (.arr ((cells.drop off).take (len * i.size) ++ news) false)) w' := by
      intro hg2 hle2
      obtain ⟨a, c, hsrc⟩ := src
      have hn0 : 0 < n := by omega
      obtain ⟨rfl, hcell⟩ := hsrc hn0
      have holdl : LRel ρ ((cells.drop off).take (len * i.size)) ((cc.toList.drop (l.o + off)).take (len * i.size)) := piece_rel hw4 off _ hle2 (by omega)
      have hol : ((cc.toList.drop (l.o + off)).take (len * i.size)).length = len * j.size := by rw [← holdl.1, hjs]; simp; omega
      have hold : ∀ (w' : World), w'.heap = w.heap → ∀ j v, ((cc.toList.drop (l.o + off)).take (len * i.size))[j]? = some v → w'.cell? ((a0 : Addr).add j) = some v := by
        intro w' hw' k v hv
        rcases hoff with h0 | ⟨h6, h7⟩
        · have : len = 0 := by omega
          subst this
          simp at hv
        · subst h6
          exact cells_of_row w' l.c (l.o + off) (len * i.size) cc el fz (by rw [hw']; exact hw1) k v hv
      have hrun := run_append_grow (P := P) w st ty elem j zv (ok.und hu) hj hz1 a0 len ccap _ hol (hold w rfl) a n c news' hnl' (hcell w rfl) hg2 (by omega) (growslice_fits (by omega) (by rw [hjb]; omega))
      generalize hcap : grownCap w (len + n) ccap elem = ncap at hrun
      have hge : len + n ≤ ncap := by rw [← hcap]; exact grownCap_ge _ _ _ _
      refine ⟨_, _, ρ.add h.next ⟨w.heap.size, 0, (((cc.toList.drop (l.o + off)).take (len * i.size)).toArray ++ news'.toArray ++ Builtin.zeroCells zv.cells (ncap - (len + n))).size⟩, hrun, fun h2 hn2 hr2 hfr2 => ?_⟩
      have hsize : (((cc.toList.drop (l.o + off)).take (len * i.size)).toArray ++ news'.toArray ++ Builtin.zeroCells zv.cells (ncap - (len + n))).size = ncap * j.size := by
        simp only [Array.size_append, List.size_toArray, size_zeroCells, hzc, hnl', hol, ← Nat.add_mul]; congr 1; omega
      have hrel := holdl.append hnr
      obtain ⟨a1, a2⟩ := newRow_rel (cc := ((cc.toList.drop (l.o + off)).take (len * i.size)).toArray ++ news'.toArray ++ Builtin.zeroCells zv.cells (ncap - (len + n))) hr2 (by rw [hn2]; exact hfr2) (cells := (cells.drop off).take (len * i.size) ++ news) (by
          have e : ((((cc.toList.drop (l.o + off)).take (len * i.size)).toArray ++ news'.toArray ++ Builtin.zeroCells zv.cells (ncap - (len + n))).toList.take ((cells.drop off).take (len * i.size) ++ news).length) = (cc.toList.drop (l.o + off)).take (len * i.size) ++ news' := by
            rw [hrel.1]
            simp only [Array.toList_append]
            exact List.take_left
          rw [e]; exact hrel) (by
          rw [hsize, hrel.1, List.length_append, hol, hnl', ← Nat.add_mul]
          exact Nat.mul_le_mul_right _ hge) elem
        (w.drew.alloc (.cells (((cc.toList.drop (l.o + off)).take (len * i.size)).toArray ++ news'.toArray ++ Builtin.zeroCells zv.cells (ncap - (len + n))) elem)) rfl rfl rfl rfl
      rw [hn2] at a1 a2
      refine ⟨.slice h.next 0 (len + n) i.size none ⟨w.heap.size, 0, _⟩ _ ncap (Emb.add_same _ _ _) hge (fun k hk => by cases hk) (.inr ⟨rfl, ?_⟩), a1, a2⟩
      simp only [hsize, hjs]; omega
    split at hl
    · -- cap known
      rename_i c
      have hcc := hcap c rfl
      subst hcc
      split at hl
      · rename_i hroom
        split at hl
        case isFalse => cases hl
        rename_i hcond
        obtain ⟨rfl, hle2, hone⟩ := hcond
        cases hl
        obtain ⟨hfz, hbase⟩ := hw5 rfl
        by_cases hc0 : ccap = 0
        · have h1 : len = 0 := by omega
          have h2 : n = 0 := by omega
          subst h1 h2
          have e : news = [] := List.eq_nil_of_length_eq_zero (by rw [hnl]; simp)
          subst e
          have ho : Owns h b := by unfold Owns; rw [hg]; trivial
          have e3 : splice cells (off + 0 * i.size) [] = cells := by unfold splice; simp
          have hblk := hr.blk b l hb
          rw [hg] at hblk
          obtain ⟨a1, a2⟩ := set_rel hr hb ho (.arr cells false) w rfl (fun _ _ => rfl) rfl rfl rfl hblk (by rw [hg]; simp)
          rw [e3]
          exact ⟨_, w, ρ, zero rfl, hs, a1, a2⟩
        · have hrun := room hroom hfz hbase hone hc0
          have hle3 : off + len * i.size + news.length ≤ cells.length := by rw [hnl]; rw [Nat.add_mul] at hle2; omega
          have ho : Owns h b := by unfold Owns; rw [hg]; trivial
          subst hfz
          obtain ⟨a1, a2⟩ := set_rel hr hb ho (.arr (splice cells (off + len * i.size) news) false) (w.setRow l.c (cc.toList.take (l.o + (off + len * i.size)) ++ news' ++ cc.toList.drop (l.o + (off + len * i.size) + news'.length)).toArray)
            (by simp) (fun k hk => setRow_other w l.c k _ hk) rfl rfl rfl
            ⟨_, el, (0, 0), setRow_heap w l.c cc _ el _ hw1, by simp; have := hnr.1; omega, by rw [length_splice hle3]; omega, splice_rel hw4 (by omega) hnr hle3, fun _ => ⟨rfl, hbase⟩⟩ (by rw [hg]; simp)
          refine ⟨_, _, ρ, hrun, ?_, a1, a2⟩
          exact .slice b off (len + n) i.size _ l a0 ccap hb hroom hcap hoff
      · rename_i hroom
        split at hl
        case isFalse => cases hl
        rename_i hle2
        cases hl
        obtain ⟨v', w', ρ', h1, h2⟩ := grow (by omega) hle2
        obtain ⟨a1, a2, a3⟩ := h2 h rfl hr (hfr (by simp [AHeap.next_push]))
        exact ⟨v', w', ρ', h1, a1, a2, a3⟩
    · -- cap unknown
      split at hl
      case isFalse => cases hl
      rename_i hcond
      obtain ⟨rfl, hle2, hone⟩ := hcond
      cases hl
      obtain ⟨hfz, hbase⟩ := hw5 rfl
      have ho : Owns h b := by unfold Owns; rw [hg]; trivial
      by_cases hroom : len + n ≤ ccap
      · -- in place: the block goes over into a new one
        have holdl : LRel ρ ((cells.drop off).take (len * i.size)) ((cc.toList.drop (l.o + off)).take (len * i.size)) := piece_rel hw4 off _ hle2 (by omega)
        by_cases hc0 : ccap = 0
        · have h1 : len = 0 := by omega
          have h2 : n = 0 := by omega
          subst h1 h2
          have e : news = [] := List.eq_nil_of_length_eq_zero (by rw [hnl]; simp)
          subst e
          obtain ⟨a1, a2⟩ := move_rel hr (hfr (by simp [AHeap.next_push, AHeap.next_set])) hb ho (.arr ((cells.drop off).take (0 * i.size) ++ []) false) 0 w rfl (fun _ _ => rfl) rfl rfl rfl
            ⟨cc, el, fz, hw1, hw2, by simp, by simp, fun _ => ⟨hfz, hbase⟩⟩ (by rw [hg]; simp)
          refine ⟨_, w, _, zero rfl, ?_, a1, a2⟩
          exact .slice h.next 0 0 i.size none ⟨l.c, 0, l.n⟩ _ ccap (Emb.add_same _ _ _) (by omega) (fun k hk => by cases hk) (.inl hc0)
        · have hrun := room hroom hfz hbase hone hc0
          rcases hoff with h0 | ⟨h6, h7⟩
          · omega
          subst hfz h6
          have hle3 : l.o + off + (len + n) * i.size ≤ l.n := by
            have : (len + n) * i.size ≤ ccap * i.size := Nat.mul_le_mul_right _ hroom
            omega
          rw [Nat.add_mul] at hle3
          have hlenr : ((cells.drop off).take (len * i.size) ++ news).length = len * i.size + n * i.size := by
            rw [List.length_append, holdl.1, hnl]; simp; omega
          obtain ⟨a1, a2⟩ := move_rel hr (hfr (by simp [AHeap.next_push, AHeap.next_set])) hb ho (.arr ((cells.drop off).take (len * i.size) ++ news) false) (l.o + off) (w.setRow l.c (cc.toList.take (l.o + (off + len * i.size)) ++ news' ++ cc.toList.drop (l.o + (off + len * i.size) + news'.length)).toArray)
            (by simp) (fun k hk => setRow_other w l.c k _ hk) rfl rfl rfl
            ⟨_, el, (0, 0), setRow_heap w l.c cc _ el _ hw1, by simp; have := hnr.1; omega, by rw [hlenr]; omega, (by
              intro k v hv
              have hrel := holdl.append hnr
              obtain ⟨v', hv', hvv⟩ := hrel.at hv
              refine ⟨v', ?_, hvv.mono (.add (hfr (by simp [AHeap.next_push, AHeap.next_set])))⟩
              simp only [List.getElem?_toArray]
              have e2 : cc.toList.length = l.n := by simpa using hw2
              by_cases hk : k < len * i.size
              · rw [List.getElem?_append_left (by simp; omega), List.getElem?_take, if_pos hk, List.getElem?_drop] at hv'
                rw [List.append_assoc, List.getElem?_append_left (by simp; omega), List.getElem?_take, if_pos (by omega)]
                exact hv'
              · rw [List.getElem?_append_right (by simp; omega)] at hv'
                have e4 : ((cc.toList.drop (l.o + off)).take (len * i.size)).length = len * i.size := by simp; omega
                rw [e4] at hv'
                have hk2 : k - len * i.size < news'.length := (List.getElem?_eq_some_iff.1 hv').1
                have e5 : (cc.toList.take (l.o + (off + len * i.size))).length = l.o + (off + len * i.size) := by simp; omega
                rw [List.append_assoc, List.getElem?_append_right (by rw [e5]; omega), e5, List.getElem?_append_left (by omega)]
                rw [show l.o + off + k - (l.o + (off + len * i.size)) = k - len * i.size from by omega]
                exact hv'), fun _ => ⟨rfl, hbase⟩⟩ (by rw [hg]; simp)
          refine ⟨_, _, _, hrun, ?_, a1, a2⟩
          exact .slice h.next 0 (len + n) i.size none ⟨l.c, l.o + off, l.n⟩ _ ccap (Emb.add_same _ _ _) hroom (fun k hk => by cases hk) (.inr ⟨rfl, h7⟩)
      · obtain ⟨v', w', ρ', h1, h2⟩ := grow (by omega) hle2
        have hkill := set_rel hr hb ho .dead w rfl (fun _ _ => rfl) rfl rfl rfl trivial (by rw [hg]; simp)
        obtain ⟨a1, a2, a3⟩ := h2 (h.set b .dead) rfl hkill.1 (hfr (by simp [AHeap.next_push, AHeap.next_set]))
        exact ⟨v', w', ρ', h1, a1, a2, hkill.2.trans a3⟩
  · cases hl

include ok in
theorem copy_ok {argTypes : Array TypeId} {ty : TypeId} {d s v : AVal} {d' s' : Value} {h' : AHeap} (hr : H0 base ρ h w) (hd : VRel ρ d d') (hs : VRel ρ s s') (hl : acopy T argTypes d s h = some (v, h')) :
    VOk P base ρ h w (Builtin.copy_ argTypes ty #[d', s']) v h' := by
  unfold acopy at hl
  split at hl
  case h_2 => cases hl
  rename_i dt hdt
  split at hl
  case h_2 => cases hl
  rename_i elem hu
  split at hl
  case h_2 => cases hl
  rename_i es hes
  obtain ⟨j, hj, hjs⟩ := ok.size hes
  simp only at hl
  split at hl
  · cases hl
  rename_i hes0
  split at hl
  case h_2 => cases hl
  rename_i news hrow
  generalize hn : Nat.min (lenOf s) (lenOf d) = n at hl hrow
  obtain ⟨hnl, news', hnr, hcase⟩ := row_ok hr hs (by omega) hrow
  have hnl' : news'.length = n * j.size := by rw [← hnr.1, hnl, hjs]
  have hlen : (Builtin.lenOf s').run P w = .ok (lenOf s) w := by
    rcases hcase with ⟨rfl, _, _⟩ | ⟨a, len2, c, rfl, _, _, _⟩
    · cases hs with
      | undef => simp [arow] at hrow
      | nilslice => simp [Builtin.lenOf, lenOf]
    · cases hs with
      | undef => simp [arow] at hrow
      | slice => simp [Builtin.lenOf, lenOf]
  have hf : (Builtin.firstCells j.size n s').run P w = .ok news'.toArray w := by
    rcases hcase with ⟨rfl, _, rfl⟩ | ⟨a, len2, c, rfl, _, _, hcell⟩
    · exact run_firstCells_none w j.size n 0 0
    · exact run_firstCells_some w j.size n a len2 c news' hnl' (hcell w rfl)
  split at hl
  · cases hl
    cases hd
    refine ⟨_, w, ρ, ?_, .int .i64 _, hr, .refl _ _ _⟩
    simp only [lenOf] at hn
    have hn0 : n = 0 := by rw [← hn]; exact Nat.min_zero _
    subst hn0
    simp [Builtin.copy_, hdt, run_underlying' (ok.und hu), hlen, run_sizeOf' hj, goInt]
    rw [hf]
    simp
  · rename_i b off len es' cap
    split at hl
    case h_2 => cases hl
    rename_i cells hg
    split at hl
    case isFalse => cases hl
    rename_i hc
    obtain ⟨rfl, hle, hone⟩ := hc
    cases hl
    cases hd with
    | slice _ _ _ _ _ l a0 ccap hb hlen' hcap hoff =>
    have hn : (lenOf s).min len = n := hn
    rcases hoff with h0 | ⟨rfl, hfit⟩
    · have hn0 : n = 0 := by rw [← hn]; have := Nat.min_le_right (lenOf s) len; simp only [Nat.min] at this ⊢; omega
      subst hn0
      have e : news = [] := List.eq_nil_of_length_eq_zero (by rw [hnl]; simp)
      have e' : news' = [] := List.eq_nil_of_length_eq_zero (by rw [hnl']; simp)
      subst e e'
      have ho : Owns h b := by unfold Owns; rw [hg]; trivial
      have e3 : splice cells off [] = cells := by unfold splice; simp
      have hblk := hr.blk b l hb
      rw [hg] at hblk
      obtain ⟨a1, a2⟩ := set_rel hr hb ho (.arr cells false) w rfl (fun _ _ => rfl) rfl rfl rfl hblk (by rw [hg]; simp)
      rw [e3]
      refine ⟨_, w, ρ, ?_, .int .i64 _, a1, a2⟩
      simp [Builtin.copy_, hdt, run_underlying' (ok.und hu), hlen, run_sizeOf' hj, goInt]
      rw [hn, hf]
      simp [storeCells]
    · obtain ⟨w', hst, hr', htr⟩ := storeRow_ok (P := P) (off := off) hr hb hg hnr (by rw [hnl]; exact hle) hone
      refine ⟨_, w', ρ, ?_, .int .i64 _, hr', htr⟩
      simp [Builtin.copy_, hdt, run_underlying' (ok.und hu), hlen, run_sizeOf' hj, goInt]
      rw [hn, hf]
      simp [hst]
  · cases hl

/- maps -/
theorem akey_rel {k k2 : AVal} {k' k2' : Value} {d : TypeDesc} {b : Bool} (h1 : VRel ρ k k') (h2 : VRel ρ k2 k2') (hk : akey k k2 = some b) (hd : (∃ j n, d = .int j ∧ k = .int j n) ∨ (∃ c, d = .bool ∧ k = .bool c)) : Instr.sameNow d k' k2' = some b := by
  rcases hd with ⟨j, n, rfl, rfl⟩ | ⟨c, rfl, rfl⟩
  · cases h1
    cases h2 <;> simp [akey] at hk
    simp [Instr.sameNow, hk]
  · cases h1
    cases h2 <;> simp [akey] at hk
    simp [Instr.sameNow, hk]

theorem find_ok {k : AVal} {k' : Value} {d : TypeDesc} (h1 : VRel ρ k k') (hd : (∃ j n, d = .int j ∧ k = .int j n) ∨ (∃ c, d = .bool ∧ k = .bool c)) :
    ∀ (es : List (AVal × AVal)) (ces : List MapEntry) (i : Nat) (r : Option (Nat × AVal)), ces.length = es.length → (∀ (i : Nat) (k v : AVal), es[i]? = some (k, v) → ∃ e : MapEntry, ces[i]? = some e ∧ VRel ρ k e.key ∧ VRel ρ v e.val) →
      afind k es i = some r → (r = none ∧ Instr.findNow d k' ces i = some none) ∨ (∃ m v v', r = some (m, v) ∧ i ≤ m ∧ m < i + es.length ∧ Instr.findNow d k' ces i = some (some (m, v')) ∧ VRel ρ v v')
  | [], ces, i, r, hl, _, h => by
    have : ces = [] := List.eq_nil_of_length_eq_zero hl
    subst this
    simp [afind] at h
    exact .inl ⟨h.symm, rfl⟩
  | (k2, v2) :: es, ces, i, r, hl, he, h => by
    cases ces with
    | nil => simp at hl
    | cons c ces =>
      obtain ⟨e, h2, h3, h4⟩ := he 0 k2 v2 rfl
      simp at h2; subst h2
      simp only [afind] at h
      cases hk : akey k k2 with
      | none => simp [hk] at h
      | some b =>
        have hs := akey_rel h1 h3 hk hd
        cases b with
        | true =>
          simp [hk] at h
          exact .inr ⟨i, v2, c.val, h.symm, Nat.le_refl _, by simp, by simp [Instr.findNow, hs], h4⟩
        | false =>
          simp only [hk] at h
          have ih := find_ok h1 hd es ces (i + 1) r (by simpa using hl) (fun j a b hj => by have := he (j + 1) a b (by simpa using hj); simpa using this) h
          simp only [Instr.findNow, hs]
          rcases ih with ⟨a, b⟩ | ⟨m, v, v', a, b, c', d', e'⟩
          · exact .inl ⟨a, b⟩
          · exact .inr ⟨m, v, v', a, by omega, by simp; omega, d', e'⟩

theorem plainKey_ok (ok : T.Ok P) {t : TypeId} {k : AVal} (h : plainKey T t k = true) : ∃ d, P.underlying t = some d ∧ ((∃ j n, d = .int j ∧ k = .int j n) ∨ (∃ c, d = .bool ∧ k = .bool c)) := by
  unfold plainKey at h
  split at h
  · rename_i hu; simp at h; subst h; exact ⟨_, ok.und hu, .inl ⟨_, _, rfl, rfl⟩⟩
  · rename_i hu; exact ⟨_, ok.und hu, .inr ⟨_, rfl, rfl⟩⟩
  · cases h

theorem checkKey_succ (n : Nat) {t : TypeId} {d : TypeDesc} {k : AVal} {k' : Value} (hu : P.underlying t = some d) (h1 : VRel ρ k k') (hd : (∃ j n, d = .int j ∧ k = .int j n) ∨ (∃ c, d = .bool ∧ k = .bool c)) (b : Bool) :
    (Instr.checkKey b (n + 1) t k').run P w = .ok () w := by
  rcases hd with ⟨j, n, rfl, rfl⟩ | ⟨c, rfl, rfl⟩
  · cases h1; simp only [Instr.checkKey, Sem.run_bind, run_underlying' hu, Result.andThen_ok, Sem.run_pure]
  · cases h1; simp only [Instr.checkKey, Sem.run_bind, run_underlying' hu, Result.andThen_ok, Sem.run_pure]
theorem checkKey_run {t : TypeId} {d : TypeDesc} {k : AVal} {k' : Value} (hu : P.underlying t = some d) (h1 : VRel ρ k k') (hd : (∃ j n, d = .int j ∧ k = .int j n) ∨ (∃ c, d = .bool ∧ k = .bool c)) (b : Bool) :
    (Instr.checkKey b 10000 t k').run P w = .ok () w := checkKey_succ 9999 hu h1 hd b

theorem map_at (hr : H0 base ρ h w) {r : Nat} {l : Loc} {es : List (AVal × AVal)} (hb : ρ r = some l) (hg : h.get r = some (.mp es)) :
    base ≤ l.c ∧ ∃ (ces : Array MapEntry) (clk : Nat), w.heap[l.c]? = some (.map ces clk) ∧ ces.size = es.length ∧ ∀ (i : Nat) (k v : AVal), es[i]? = some (k, v) → ∃ e : MapEntry, ces[i]? = some e ∧ VRel ρ k e.key ∧ VRel ρ v e.val := by
  have hblk := hr.blk r l hb
  rw [hg] at hblk
  exact hblk

theorem run_getObj' (w : World) (r : Nat) (ces : Array MapEntry) (clk : Nat) (hg : w.heap[r]? = some (.map ces clk)) : (getObj r).run P w = .ok (.map ces clk) w := by
  simp [getObj, Sem.run, hg]

include ok in
theorem lookup_ok {t : TypeId} {x ix v : AVal} {x' ix' : Value} {b : Bool} (hr : H0 base ρ h w) (hx : VRel ρ x x') (hi : VRel ρ ix ix') (hl : alookup T t x ix b h = some v) :
    ∃ v', (Instr.lookup t x' ix' b).run P w = .ok v' w ∧ VRel ρ v v' := by
  unfold alookup at hl
  split at hl
  case h_2 => cases hl
  rename_i key elem hu
  split at hl
  case isFalse => cases hl
  rename_i hk
  obtain ⟨d, hd, hkd⟩ := plainKey_ok ok hk
  have fin : ∀ (es : List (AVal × AVal)) (ces : Array MapEntry), ces.size = es.length → (∀ (i : Nat) (k v : AVal), es[i]? = some (k, v) → ∃ e : MapEntry, ces[i]? = some e ∧ VRel ρ k e.key ∧ VRel ρ v e.val) →
      (match afind ix es 0 with
        | some (some (_, v)) => some (if b then .tuple [v, .bool true] else v)
        | some none => match zeroT T elem with
          | some z => some (if b then .tuple [z, .bool false] else z)
          | none => none
        | none => none) = some v →
      ∃ v', ((do
        Instr.checkKey ces.isEmpty 10000 key ix'
        let (v, ok) ← match ← Instr.findKey key ix' ces.toList with
          | some (_, v) => pure (v, true)
          | none => pure (← zeroValue elem, false)
        pure (if b then .tuple #[v, .bool ok] else v) : Sem Value)).run P w = .ok v' w ∧ VRel ρ v v' := by
    intro es ces hsz hes hf
    cases ha : afind ix es 0 with
    | none => simp [ha] at hf
    | some r =>
      rcases find_ok hi hkd es ces.toList 0 r (by simpa using hsz) (fun i k v hh => by have := hes i k v hh; simpa using this) ha with ⟨rfl, h2⟩ | ⟨m, u, u', rfl, _, _, h2, h3⟩
      · simp only [ha] at hf
        cases hz : zeroT T elem with
        | none => simp [hz] at hf
        | some z =>
          obtain ⟨j, zv, hj, hjz, hzv⟩ := ok.zero hz
          have hzr := ofVal_rel ρ zv z hzv
          simp only [hz, Option.some.injEq] at hf
          simp only [Sem.run_bind, checkKey_run hd hi hkd, Result.andThen_ok, Instr.findKey, run_underlying' hd, h2, Sem.run_pure, run_zeroValue' hj hjz]
          refine ⟨_, rfl, ?_⟩
          subst hf
          cases b
          · exact hzr
          · exact .tuple' (.cons hzr (.cons (.bool false) (.nil _)))
      · simp only [ha, Option.some.injEq] at hf
        simp only [Sem.run_bind, checkKey_run hd hi hkd, Result.andThen_ok, Instr.findKey, run_underlying' hd, h2, Sem.run_pure]
        refine ⟨_, rfl, ?_⟩
        subst hf
        cases b
        · exact h3
        · exact .tuple' (.cons h3 (.cons (.bool true) (.nil _)))
  split at hl
  case h_2 => cases hl
  rename_i es hes
  split at hes
  · cases hes
    cases hx
    obtain ⟨v', h1, h2⟩ := fin [] #[] rfl (by simp) hl
    refine ⟨v', ?_, h2⟩
    simp only [Instr.lookup, Sem.run_bind, run_underlying' (ok.und hu), Result.andThen_ok, Sem.run_pure] at h1 ⊢
    exact h1
  · split at hes
    case h_2 => cases hes
    rename_i r es' hg
    cases hes
    cases hx with
    | map _ l hb =>
    obtain ⟨_, ces, clk, h1, h2, h3⟩ := map_at hr hb hg
    obtain ⟨v', h4, h5⟩ := fin es ces h2 h3 hl
    refine ⟨v', ?_, h5⟩
    simp only [Instr.lookup, Sem.run_bind, run_underlying' (ok.und hu), Result.andThen_ok, run_getObj' w l.c ces clk h1, Sem.run_pure] at h4 ⊢
    exact h4
  · cases hes

theorem sameBits_plain {k : AVal} {k1 k2 : Value} {d : TypeDesc} (h1 : VRel ρ k k1) (hd : (∃ j n, d = .int j ∧ k = .int j n) ∨ (∃ c, d = .bool ∧ k = .bool c)) (hs : Instr.sameNow d k1 k2 = some true) : Instr.sameBits 10000 k2 k1 = true := by
  rcases hd with ⟨j, n, rfl, rfl⟩ | ⟨c, rfl, rfl⟩
  · cases h1
    cases k2 <;> simp [Instr.sameNow] at hs
    simp [Instr.sameBits, hs]
  · cases h1
    cases k2 <;> simp [Instr.sameNow] at hs
    simp [Instr.sameBits, hs]

theorem findNow_same {d : TypeDesc} {k' : Value} : ∀ (ces : List MapEntry) (i m : Nat) (v : Value), Instr.findNow d k' ces i = some (some (m, v)) → ∃ e, ces[m - i]? = some e ∧ i ≤ m ∧ Instr.sameNow d k' e.key = some true
  | [], i, m, v, h => by simp [Instr.findNow] at h
  | e :: es, i, m, v, h => by
    simp only [Instr.findNow] at h
    split at h
    · rename_i hs
      simp at h
      obtain ⟨rfl, _⟩ := h
      exact ⟨e, by simp, Nat.le_refl _, hs⟩
    · obtain ⟨e', h1, h2, h3⟩ := findNow_same es (i + 1) m v h
      refine ⟨e', ?_, by omega, h3⟩
      rw [show m - i = (m - (i + 1)) + 1 from by omega]
      simpa using h1
    · cases h

include ok in
theorem mapUpdate_ok {t : TypeId} {m k v : AVal} {m' k' v' : Value} {h' : AHeap} (hr : H0 base ρ h w) (hm : VRel ρ m m') (hk : VRel ρ k k') (hv : VRel ρ v v') (hl : amapUpdate T t m k v h = some h') :
    UOk P base ρ h w (Instr.mapUpdate t m' k' v') h' := by
  unfold amapUpdate at hl
  split at hl
  case h_2 => cases hl
  rename_i key elem r hu
  split at hl
  case isFalse => cases hl
  rename_i hpk
  obtain ⟨d, hd, hkd⟩ := plainKey_ok ok hpk
  split at hl
  case h_2 => cases hl
  rename_i es hg
  cases hm with
  | map _ l hb =>
  obtain ⟨hbase, ces, clk, h1, h2, h3⟩ := map_at hr hb hg
  have ho : Owns h r := by unfold Owns; rw [hg]; trivial
  have hlc : l.c < w.heap.size := hr.clt r l hb
  cases ha : afind k es 0 with
  | none => simp [ha] at hl
  | some q =>
    rcases find_ok hk hkd es ces.toList 0 q (by simpa using h2) (fun i k v hh => by have := h3 i k v hh; simpa using this) ha with ⟨rfl, h4⟩ | ⟨i, u, u', rfl, _, hi, h4, _⟩
    · simp [ha] at hl
      subst hl
      obtain ⟨a1, a2⟩ := set_rel hr hb ho (.mp (es ++ [(k, v)])) { w with heap := w.heap.setIfInBounds l.c (.map (ces.push { key := k', val := v', born := clk }) (clk + 1)) } (by simp)
        (fun j hj => by simp [Array.getElem?_setIfInBounds, Ne.symm hj]) rfl rfl rfl
        ⟨hbase, ces.push { key := k', val := v', born := clk }, clk + 1, by simp [Array.getElem?_setIfInBounds, hlc], by simp [h2], fun i a b hh => by
          by_cases hi : i < es.length
          · rw [List.getElem?_append_left hi] at hh
            obtain ⟨e, he, h5, h6⟩ := h3 i a b hh
            refine ⟨e, ?_, h5, h6⟩
            rw [Array.getElem?_push, if_neg (by omega)]; exact he
          · rw [List.getElem?_append_right (by omega)] at hh
            have hi2 : i - es.length = 0 := by
              have := (List.getElem?_eq_some_iff.1 hh).1
              simp at this; omega
            rw [hi2] at hh
            simp at hh
            obtain ⟨rfl, rfl⟩ := hh
            refine ⟨{ key := k', val := v', born := clk }, ?_, hk, hv⟩
            rw [Array.getElem?_push, if_pos (by omega)]⟩ (by rw [hg]; simp)
      refine ⟨_, ρ, ?_, a1, a2⟩
      simp only [Instr.mapUpdate, Sem.run_bind, run_underlying' (ok.und hu), Result.andThen_ok, run_getObj' w l.c ces clk h1, checkKey_run hd hk hkd, Instr.findKey, run_underlying' hd, h4, Sem.run_pure, setObj, Sem.run, h1]
    · simp [ha] at hl
      subst hl
      obtain ⟨e, he, _, hsame⟩ := findNow_same ces.toList 0 i u' h4
      simp only [Nat.sub_zero, Array.getElem?_toList] at he
      have hbits := sameBits_plain hk hkd hsame
      obtain ⟨a1, a2⟩ := set_rel hr hb ho (.mp (es.set i (k, v))) { w with heap := w.heap.setIfInBounds l.c (.map (ces.modify i fun e => { e with key := k', val := v' }) clk) } (by simp)
        (fun j hj => by simp [Array.getElem?_setIfInBounds, Ne.symm hj]) rfl rfl rfl
        ⟨hbase, ces.modify i fun e => { e with key := k', val := v' }, clk, by simp [Array.getElem?_setIfInBounds, hlc], by simp [h2], fun j a b hh => by
          rw [List.getElem?_set] at hh
          rw [Array.getElem?_modify]
          by_cases hij : i = j
          · subst hij
            rw [if_pos rfl] at hh
            split at hh
            · simp at hh
              obtain ⟨rfl, rfl⟩ := hh
              exact ⟨{ e with key := k', val := v' }, by rw [if_pos rfl, he]; rfl, hk, hv⟩
            · cases hh
          · rw [if_neg hij] at hh ⊢
            exact h3 j a b hh⟩ (by rw [hg]; simp)
      refine ⟨_, ρ, ?_, a1, a2⟩
      simp only [Instr.mapUpdate, Sem.run_bind, run_underlying' (ok.und hu), Result.andThen_ok, run_getObj' w l.c ces clk h1, checkKey_run hd hk hkd, Instr.findKey, run_underlying' hd, h4, Sem.run_pure, he, Option.map_some, Option.getD_some, Instr.keyThatStays, hbits, if_true, setObj, Sem.run, h1]

end

end Go.Ai
