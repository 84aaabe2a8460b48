/- An abstract interpreter for the model's code: a drawn region's step, whatever has run before it. -/
import Derived.Test.YtpiblfbidgcjaaaAiDraw
namespace Go.Ai
open Classical

/- footprints that are apart -/
theorem disj_spec {a b : List Nat} (h : disj a b = true) {x : Nat} (hx : x ∈ a) : x ∉ b := by
  have := List.all_eq_true.1 h x hx
  simpa using this

structure Clear (f : Foot) (x : Nat) : Prop where
  rd : x ∉ f.rd
  wr : x ∉ f.wr
  rall : f.rall = false
  wall : f.wall = false

theorem apart_left {a b : Foot} (h : a.apart b = true) {x : Nat} (hx : x ∈ a.wr ∨ a.wall = true) : Clear b x := by
  unfold Foot.apart at h
  simp only [Bool.and_eq_true, Bool.or_eq_true, Bool.not_eq_true', List.isEmpty_iff] at h
  obtain ⟨⟨⟨⟨⟨⟨h1, h2⟩, h3⟩, h4⟩, h5⟩, h6⟩, h7⟩ := h
  rcases hx with hx | hx
  · have hne : ¬ a.wr = [] := fun q => by rw [q] at hx; cases hx
    refine ⟨disj_spec h1 hx, disj_spec h2 hx, ?_, ?_⟩
    · rcases h7 with q | q
      · exact q
      · exact absurd q.1 hne
    · rcases h5 with q | q
      · exact q
      · exact absurd q.1.1.2 hne
  · rcases h4 with q | q
    · rw [hx] at q; cases q
    · obtain ⟨⟨⟨q1, q2⟩, q3⟩, q4⟩ := q
      exact ⟨by rw [q1]; simp, by rw [q2]; simp, q3, q4⟩

theorem apart_right {a b : Foot} (h : a.apart b = true) {x : Nat} (hx : x ∈ b.wr ∨ b.wall = true) : Clear a x := by
  unfold Foot.apart at h
  simp only [Bool.and_eq_true, Bool.or_eq_true, Bool.not_eq_true', List.isEmpty_iff] at h
  obtain ⟨⟨⟨⟨⟨⟨h1, h2⟩, h3⟩, h4⟩, h5⟩, h6⟩, h7⟩ := h
  rcases hx with hx | hx
  · have hne : ¬ b.wr = [] := fun q => by rw [q] at hx; cases hx
    refine ⟨fun q => disj_spec h3 q hx, fun q => disj_spec h2 q hx, ?_, ?_⟩
    · rcases h6 with q | q
      · exact q
      · exact absurd q.1 hne
    · rcases h4 with q | q
      · exact q
      · exact absurd q.1.1.2 hne
  · rcases h5 with q | q
    · rw [hx] at q; cases q
    · obtain ⟨⟨⟨q1, q2⟩, q3⟩, q4⟩ := q
      exact ⟨by rw [q1]; simp, by rw [q2]; simp, q3, q4⟩

/- a footprint's blocks are those of operands -/
theorem foot_operand {ev : Operand → AVal} {o : Oper} {b : Nat} (h : b ∈ (foot ev o).rd ∨ b ∈ (foot ev o).wr) : ∃ a ∈ o.op.operands.toList, b ∈ blkOf (ev a) := by
  unfold foot at h
  have fl : ∀ (c : Call), b ∈ (c.args.toList.map ev).flatMap blkOf → ∃ a ∈ (Op.call c).operands.toList, b ∈ blkOf (ev a) := by
    intro c hb
    obtain ⟨v, hv, hb⟩ := List.mem_flatMap.1 hb
    obtain ⟨a, ha, rfl⟩ := List.mem_map.1 hv
    exact ⟨a, by simp only [Op.operands, Call.operands, Array.toList_append, List.mem_append]; exact .inr ha, hb⟩
  cases ho : o.op <;> rw [ho] at h <;> simp only at h <;> (try (simp at h; done))
  case load t a => exact ⟨a, by simp [Op.operands], by simpa using h⟩
  case store t a x => exact ⟨a, by simp [Op.operands], by simpa using h⟩
  case lookup t x ix ok => exact ⟨x, by simp [Op.operands], by simpa using h⟩
  case mapUpdate t m k x => exact ⟨m, by simp [Op.operands], by simpa using h⟩
  case insert t m k x => exact ⟨m, by simp [Op.operands], by simpa using h⟩
  case call c =>
    apply fl c
    cases hc : c.callee with
    | value f => rw [hc] at h; simp at h
    | invoke r m => rw [hc] at h; simp at h
    | builtin bb =>
      rw [hc] at h
      have hmap : ∀ xs : List AVal, b ∈ xs.flatMap mapOf → b ∈ xs.flatMap blkOf := by
        intro xs hx
        obtain ⟨v, hv, hb⟩ := List.mem_flatMap.1 hx
        refine List.mem_flatMap.2 ⟨v, hv, ?_⟩
        cases v <;> simp [mapOf] at hb
        simp [blkOf, hb]
      have hsub : ∀ (xs ys : List AVal), (∀ y ∈ ys, y ∈ xs) → b ∈ ys.flatMap blkOf → b ∈ xs.flatMap blkOf := by
        intro xs ys hy hx
        obtain ⟨v, hv, hb⟩ := List.mem_flatMap.1 hx
        exact List.mem_flatMap.2 ⟨v, hy v hv, hb⟩
      cases bb <;> simp only at h <;> (try (simp at h; done))
      case len => rcases h with h | h
                  · exact hmap _ h
                  · cases h
      case append => rcases h with h | h
                     · exact hsub _ _ (fun y hy => List.mem_of_mem_drop hy) h
                     · exact hsub _ _ (fun y hy => List.mem_of_mem_take hy) h
      case copy => rcases h with h | h
                   · exact hsub _ _ (fun y hy => List.mem_of_mem_drop hy) h
                   · exact hsub _ _ (fun y hy => List.mem_of_mem_take hy) h

theorem blkOf_dom {ρ : Emb} {v : AVal} {v' : Value} (h : VRel ρ v v') {b : Nat} (hb : b ∈ blkOf v) : ∃ l, ρ b = some l := by
  cases h <;> simp [blkOf] at hb
  · subst hb; exact ⟨_, by assumption⟩
  · subst hb; exact ⟨_, by assumption⟩
  · subst hb; exact ⟨_, by assumption⟩

/- what both embeddings know -/
noncomputable def inter (ρ ρi : Emb) : Emb := fun b => if (ρi b).isSome then ρ b else none

theorem inter_some {ρ ρi : Emb} {b : Nat} {l li : Loc} (h : ρ b = some l) (hi : ρi b = some li) : inter ρ ρi b = some l := by
  unfold inter; rw [hi]; simpa using h
theorem inter_inv {ρ ρi : Emb} {b : Nat} {l : Loc} (h : inter ρ ρi b = some l) : ρ b = some l ∧ ∃ li, ρi b = some li := by
  unfold inter at h
  cases hi : ρi b with
  | none => rw [hi] at h; simp at h
  | some li => rw [hi] at h; simp at h; exact ⟨h, li, rfl⟩

theorem FnRel.inter {ρ ρi : Emb} {f f' f'' : Fn} (h : FnRel ρ f f') (hi : FnRel ρi f f'') : FnRel (inter ρ ρi) f f' := by
  rcases h with ⟨l, l', rfl, rfl, loc, hl, hc⟩ | ⟨g, rfl, rfl⟩
  · rcases hi with ⟨l2, l2', e, rfl, loc2, hl2, _⟩ | ⟨g, e, _⟩
    · cases e
      exact .inl ⟨_, _, rfl, rfl, loc, inter_some hl hl2, hc⟩
    · cases e
  · exact .inr ⟨_, rfl, rfl⟩

theorem VRel.inter {ρ ρi : Emb} {v : AVal} {x : Value} (h : VRel ρ v x) : ∀ {y : Value}, VRel ρi v y → VRel (inter ρ ρi) v x := by
  induction h with
  | undef v => intro y _; exact .undef v
  | bool b => intro y _; exact .bool b
  | int k n => intro y _; exact .int k n
  | str s => intro y _; exact .str s
  | ptr b off l h => intro y hy; cases hy with | ptr _ _ l2 h2 => exact .ptr b off l (inter_some h h2)
  | nilptr => intro y _; exact .nilptr
  | slice b off len es cap l a ccap h hlen hcap hoff => intro y hy; cases hy with | slice _ _ _ _ _ l2 _ _ h2 _ _ _ => exact .slice b off len es cap l a ccap (inter_some h h2) hlen hcap hoff
  | nilslice => intro y _; exact .nilslice
  | map r l h => intro y hy; cases hy with | map _ l2 h2 => exact .map r l (inter_some h h2)
  | nilmap => intro y _; exact .nilmap
  | func fn fn' f c f' c' hfn hf hc _ _ ihf ihc =>
    intro y hy
    cases hy with
    | func _ fn2 _ _ f2 c2 hfn2 hf2 hc2 hfs2 hcs2 =>
      refine .func fn fn' f c f' c' (hfn.inter hfn2) hf hc (fun i v v' hv hv' => ?_) (fun i v v' hv hv' => ?_)
      · have hlt : i < f2.size := by rw [← hf2]; exact (List.getElem?_eq_some_iff.1 hv).1
        exact ihf i v v' hv hv' (hfs2 i v _ hv (Array.getElem?_eq_getElem hlt))
      · have hlt : i < c2.size := by rw [← hc2]; exact (List.getElem?_eq_some_iff.1 hv).1
        exact ihc i v v' hv hv' (hcs2 i v _ hv (Array.getElem?_eq_getElem hlt))
  | nilfunc => intro y _; exact .nilfunc
  | iface t v v' _ ih => intro y hy; cases hy with | iface _ _ _ h2 => exact .iface t v v' (ih h2)
  | niliface => intro y _; exact .niliface
  | agg cs cs' hl _ ih =>
    intro y hy
    cases hy with
    | agg _ c2 hl2 hs2 =>
      refine .agg cs cs' hl (fun i v v' hv hv' => ?_)
      have hlt : i < c2.size := by rw [← hl2]; exact (List.getElem?_eq_some_iff.1 hv).1
      exact ih i v v' hv hv' (hs2 i v _ hv (Array.getElem?_eq_getElem hlt))
  | tuple cs cs' hl _ ih =>
    intro y hy
    cases hy with
    | tuple _ c2 hl2 hs2 =>
      refine .tuple cs cs' hl (fun i v v' hv hv' => ?_)
      have hlt : i < c2.size := by rw [← hl2]; exact (List.getElem?_eq_some_iff.1 hv).1
      exact ih i v v' hv hv' (hs2 i v _ hv (Array.getElem?_eq_getElem hlt))

theorem BRel.inter {base : Nat} {ρ ρi : Emb} {x : Option ABlk} {l l' : Loc} {w w' : World} (h : BRel base ρ x l w) (hi : BRel base ρi x l' w') : BRel base (inter ρ ρi) x l w := by
  unfold BRel at h hi ⊢
  split
  · obtain ⟨cc, el, fz, h1, h2, h3, h4, h5⟩ := h
    obtain ⟨_, _, _, _, _, _, g4, _⟩ := hi
    exact ⟨cc, el, fz, h1, h2, h3, fun i v hv => by
      obtain ⟨v', a, b⟩ := h4 i v hv
      obtain ⟨_, _, c⟩ := g4 i v hv
      exact ⟨v', a, b.inter c⟩, h5⟩
  · obtain ⟨h0, ces, clk, h1, h2, h3⟩ := h
    obtain ⟨_, _, _, _, _, g3⟩ := hi
    exact ⟨h0, ces, clk, h1, h2, fun i k v hv => by
      obtain ⟨en, a, b, c⟩ := h3 i k v hv
      obtain ⟨_, _, b2, c2⟩ := g3 i k v hv
      exact ⟨en, a, b.inter b2, c.inter c2⟩⟩
  · obtain ⟨h0, L', h1, h2⟩ := h
    obtain ⟨_, L2, _, g2⟩ := hi
    exact ⟨h0, L', h1, ⟨h2.state, h2.pending, h2.params, h2.assign, h2.body, fun t => (h2.frame t).inter (g2.frame t), h2.okP, h2.okA, h2.okB⟩⟩
  · trivial
  · exact h.elim

theorem LRel.inter {ρ ρi : Emb} {vs : List AVal} {xs ys : List Value} (h : LRel ρ vs xs) (hi : LRel ρi vs ys) : LRel (inter ρ ρi) vs xs := by
  refine ⟨h.1, fun i v v' hv hv' => ?_⟩
  obtain ⟨y, _, hy⟩ := hi.at hv
  exact (h.2 i v v' hv hv').inter hy

theorem wanted_ok2 {ρ : Emb} {fr : AFrame} {tmps : Array Value} {ops : Array Oper} {o : Oper} {b : Bool} (hf : ∀ d ∈ looks ops.toList o, VRel ρ (fr.ev d) (tmps.getD d undef)) (hsz : ∀ o ∈ ops.toList, ∀ d, o.dst = some d → d < tmps.size) (hl : awanted ops.toList fr o.guard = some b) : Region.wanted o (yielded ops tmps) = b := by
  unfold awanted at hl
  unfold Region.wanted
  split at hl
  · rename_i hg; simp at hl; subst hl; simp [hg]
  · rename_i j want hg
    simp only [hg]
    unfold yielded
    have hl0 := hl
    rw [Array.getElem?_toList] at hl
    cases hd : (ops[j]?).bind (fun o => o.dst) with
    | none => rw [hd] at hl; simp at hl; subst hl; simp
    | some d =>
      rw [hd] at hl
      simp only at hl
      have hlt : d < tmps.size := by
        cases ho : ops[j]? with
        | none => rw [ho] at hd; cases hd
        | some o' =>
          rw [ho] at hd
          exact hsz o' (by rw [Array.mem_toList_iff]; exact Array.mem_of_getElem? ho) d hd
      have hv := hf d (by
        unfold looks
        refine List.mem_append.2 (.inr ?_)
        rw [hg]
        simp only [Array.getElem?_toList, hd]
        simp)
      have e : tmps.getD d undef = tmps[d] := by simp [Array.getD, hlt]
      rw [e] at hv
      simp only [Option.bind_some, Array.getElem?_eq_getElem hlt]
      generalize tmps[d] = y at hv
      generalize fr.ev d = x at hv hl
      cases hv <;> simp at hl <;> subst hl <;> simp

end Go.Ai
