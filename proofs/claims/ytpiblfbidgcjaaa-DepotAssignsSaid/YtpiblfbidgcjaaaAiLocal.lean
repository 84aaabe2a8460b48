/- An abstract interpreter for the model's code: an operation depends on the blocks of its footprint alone. -/
import Derived.Test.YtpiblfbidgcjaaaAiKeep
namespace Go.Ai

/- two heaps go the same step -/
def SameStep (W : List Nat) (h1 h1' h2 h2' : AHeap) : Prop :=
  h2'.next = h1'.next ∧ ((h1'.next = h1.next) ∨ h1'.next = h1.next + 1) ∧
  ∀ b, (h1'.get b = h1.get b ∧ h2'.get b = h2.get b ∧ (b ≠ h1.next ∨ h1'.next = h1.next)) ∨ (h2'.get b = h1'.get b ∧ (b ∈ W ∨ (b = h1.next ∧ h1'.next = h1.next + 1)))

section
variable {W : List Nat} {h1 h2 : AHeap} (hn : h2.next = h1.next)
include hn
theorem SameStep.refl : SameStep W h1 h1 h2 h2 := ⟨hn, .inl rfl, fun _ => .inl ⟨rfl, rfl, .inr rfl⟩⟩
theorem SameStep.push (x : ABlk) : SameStep W h1 (h1.push x) h2 (h2.push x) := by
  refine ⟨by simp [AHeap.next_push, hn], .inr (by simp [AHeap.next_push]), fun b => ?_⟩
  rw [AHeap.get_push, AHeap.get_push, hn]
  by_cases e : b = h1.next
  · rw [if_pos e, if_pos e]; exact .inr ⟨rfl, .inr ⟨e, rfl⟩⟩
  · rw [if_neg e, if_neg e]; exact .inl ⟨rfl, rfl, .inl e⟩
theorem SameStep.set (b : Nat) (x : ABlk) (hb : b ∈ W) : SameStep W h1 (h1.set b x) h2 (h2.set b x) := by
  refine ⟨by simp [AHeap.next_set, hn], .inl rfl, fun b' => ?_⟩
  rw [AHeap.get_set, AHeap.get_set]
  by_cases e : b' = b
  · rw [if_pos e, if_pos e]; exact .inr ⟨rfl, .inl (e ▸ hb)⟩
  · rw [if_neg e, if_neg e]; exact .inl ⟨rfl, rfl, .inr rfl⟩
theorem SameStep.move (b : Nat) (x : ABlk) (hb : b ∈ W) : SameStep W h1 ((h1.set b .dead).push x) h2 ((h2.set b .dead).push x) := by
  refine ⟨by simp [AHeap.next_push, AHeap.next_set, hn], .inr (by simp [AHeap.next_push, AHeap.next_set]), fun b' => ?_⟩
  rw [AHeap.get_push, AHeap.get_push, AHeap.get_set, AHeap.get_set, AHeap.next_set, AHeap.next_set, hn]
  by_cases e : b' = h1.next
  · rw [if_pos e, if_pos e]; exact .inr ⟨rfl, .inr ⟨e, rfl⟩⟩
  · rw [if_neg e, if_neg e]
    by_cases e2 : b' = b
    · rw [if_pos e2, if_pos e2]; exact .inr ⟨rfl, .inl (e2 ▸ hb)⟩
    · rw [if_neg e2, if_neg e2]; exact .inl ⟨rfl, rfl, .inl e⟩
end

section
variable {T : Tab} {h1 h2 : AHeap}

theorem aload_local {t : TypeId} {a : AVal} (hag : ∀ b ∈ blkOf a, h2.get b = h1.get b) : aload T t h2 a = aload T t h1 a := by
  unfold aload
  cases a <;> try rfl
  rename_i b off
  simp only [hag b (by simp [blkOf])]

theorem alookup_local {t : TypeId} {x ix : AVal} {ok : Bool} (hag : ∀ b ∈ blkOf x, h2.get b = h1.get b) : alookup T t x ix ok h2 = alookup T t x ix ok h1 := by
  unfold alookup
  cases x <;> try rfl
  rename_i r
  simp only [hag r (by simp [blkOf])]

theorem arow_local {es n : Nat} {x : AVal} (hag : ∀ b ∈ blkOf x, h2.get b = h1.get b) : arow es n x h2 = arow es n x h1 := by
  unfold arow
  cases x <;> try rfl
  rename_i b off len es' cap
  simp only [hag b (by simp [blkOf])]

theorem alen_local {t : TypeId} {x : AVal} (hag : ∀ b ∈ mapOf x, h2.get b = h1.get b) : alen T t x h2 = alen T t x h1 := by
  unfold alen
  cases x
  case map r =>
    have hr := hag r (by simp [mapOf])
    cases T.und t with
    | none => rfl
    | some d => cases d <;> first | rfl | simp only [hr]
  all_goals (cases T.und t with
    | none => rfl
    | some d => cases d <;> rfl)

theorem astore_local {t : TypeId} {a v : AVal} {h1' : AHeap} (hn : h2.next = h1.next) (hag : ∀ b ∈ blkOf a, h2.get b = h1.get b) (hl : astore T t h1 a v = some h1') :
    ∃ h2', astore T t h2 a v = some h2' ∧ SameStep (blkOf a) h1 h1' h2 h2' := by
  unfold astore at hl ⊢
  split at hl
  case h_2 => cases hl
  rename_i b off
  simp only [hag b (by simp [blkOf])]
  split at hl
  case h_2 => cases hl
  rename_i cells hg
  split at hl
  case h_2 => cases hl
  rename_i n hsz
  split at hl
  case isFalse => cases hl
  rename_i hc
  cases hl
  rw [if_pos hc]
  exact ⟨_, rfl, SameStep.set hn b _ (by simp [blkOf])⟩

theorem amapUpdate_local {t : TypeId} {m k v : AVal} {h1' : AHeap} (hn : h2.next = h1.next) (hag : ∀ b ∈ blkOf m, h2.get b = h1.get b) (hl : amapUpdate T t m k v h1 = some h1') :
    ∃ h2', amapUpdate T t m k v h2 = some h2' ∧ SameStep (blkOf m) h1 h1' h2 h2' := by
  unfold amapUpdate at hl ⊢
  split at hl
  case h_2 => cases hl
  rename_i key elem r hu
  simp only [hag r (by simp [blkOf])]
  split at hl
  case isFalse => cases hl
  rename_i hk
  simp only [hk, if_true]
  split at hl
  case h_2 => cases hl
  rename_i es hg
  split at hl
  · rename_i i u hf
    cases hl
    exact ⟨_, by simp [hf], SameStep.set hn r _ (by simp [blkOf])⟩
  · rename_i hf
    cases hl
    exact ⟨_, by simp [hf], SameStep.set hn r _ (by simp [blkOf])⟩
  · cases hl

theorem amakeRow_local {elem : TypeId} {len n : Nat} {cap : Option Nat} {parts : List (Nat × AVal)} {v : AVal} {h1' : AHeap} (hn : h2.next = h1.next) (hl : amakeRow T elem len cap n h1 parts = some (v, h1')) :
    ∃ h2', amakeRow T elem len cap n h2 parts = some (v, h2') ∧ SameStep [] h1 h1' h2 h2' := by
  unfold amakeRow at hl ⊢
  rw [hn]
  split at hl
  case h_2 => cases hl
  split at hl
  · cases hl
  rename_i hs
  split at hl
  case h_2 => cases hl
  split at hl
  case isFalse => cases hl
  rename_i hz
  split at hl
  case h_2 => cases hl
  cases hl
  exact ⟨_, by simp only [hs, hz, if_false, if_true], SameStep.push hn _⟩

theorem acopy_local {ts : Array TypeId} {d s v : AVal} {h1' : AHeap} (hn : h2.next = h1.next) (hd : ∀ b ∈ blkOf d, h2.get b = h1.get b) (hs : ∀ b ∈ blkOf s, h2.get b = h1.get b) (hl : acopy T ts d s h1 = some (v, h1')) :
    ∃ h2', acopy T ts d s h2 = some (v, h2') ∧ SameStep (blkOf d) h1 h1' h2 h2' := by
  unfold acopy at hl ⊢
  split at hl
  case h_2 => cases hl
  split at hl
  case h_2 => cases hl
  split at hl
  case h_2 => cases hl
  simp only at hl ⊢
  split at hl
  · cases hl
  rename_i hes
  rw [if_neg hes]
  rw [arow_local hs]
  split at hl
  case h_2 => cases hl
  split at hl
  · cases hl
    exact ⟨_, rfl, SameStep.refl hn⟩
  · rename_i b off len es' cap _
    rw [hd b (by simp [blkOf])]
    split at hl
    case h_2 => cases hl
    split at hl
    case isFalse => cases hl
    rename_i hc
    cases hl
    rw [if_pos hc]
    exact ⟨_, rfl, SameStep.set hn b _ (by simp [blkOf])⟩
  · cases hl

theorem aappend_local {ts : Array TypeId} {s x v : AVal} {h1' : AHeap} (hn : h2.next = h1.next) (hs : ∀ b ∈ blkOf s, h2.get b = h1.get b) (hx : ∀ b ∈ blkOf x, h2.get b = h1.get b) (hl : aappend T ts s x h1 = some (v, h1')) :
    ∃ h2', aappend T ts s x h2 = some (v, h2') ∧ SameStep (blkOf s) h1 h1' h2 h2' := by
  unfold aappend at hl ⊢
  split at hl
  case h_2 => cases hl
  split at hl
  · cases hl
  rename_i hst
  rw [if_neg hst]
  split at hl
  case h_2 => cases hl
  split at hl
  case h_2 => cases hl
  simp only at hl ⊢
  split at hl
  · cases hl
  split at hl
  · cases hl
  rename_i hes
  rw [if_neg hes, arow_local hx]
  split at hl
  case h_2 => cases hl
  split at hl
  · split at hl
    · rename_i h0
      cases hl
      rw [if_pos h0]
      exact ⟨_, rfl, SameStep.refl hn⟩
    · rename_i h0
      rw [if_neg h0]
      split at hl
      case isFalse => cases hl
      rename_i hc
      cases hl
      rw [if_pos hc, hn]
      exact ⟨_, rfl, SameStep.push hn _⟩
  · rename_i b off len es' cap
    rw [hs b (by simp [blkOf])]
    split at hl
    case isFalse => cases hl
    rename_i hc
    rw [if_pos hc]
    split at hl
    case h_2 => cases hl
    split at hl
    · split at hl
      · rename_i hroom
        split at hl
        case isFalse => cases hl
        rename_i hc2
        cases hl
        simp only [hroom, hc2, if_true, and_self]
        exact ⟨_, rfl, SameStep.set hn b _ (by simp [blkOf])⟩
      · rename_i hroom
        split at hl
        case isFalse => cases hl
        rename_i hc2
        cases hl
        simp only [hroom, hc2, if_true, if_false, hn]
        exact ⟨_, rfl, SameStep.push hn _⟩
    · split at hl
      case isFalse => cases hl
      rename_i hc2
      cases hl
      simp only [hc2, if_true, and_self, hn]
      exact ⟨_, rfl, SameStep.move hn b _ (by simp [blkOf])⟩
  · cases hl

theorem SameStep.mono {W W' : List Nat} {a b c d : AHeap} (h : SameStep W a b c d) (hw : ∀ x ∈ W, x ∈ W') : SameStep W' a b c d :=
  ⟨h.1, h.2.1, fun x => by
    rcases h.2.2 x with q | ⟨q1, q2 | q2⟩
    · exact .inl q
    · exact .inr ⟨q1, .inl (hw x q2)⟩
    · exact .inr ⟨q1, .inr q2⟩⟩

theorem aop_local {ev : Operand → AVal} {o : Oper} {v : AVal} {h1' : AHeap} (hl : aop T ev h1 o.op = some (.val v h1')) (hn : h2.next = h1.next) (hag : ∀ b, b ∈ (foot ev o).rd ∨ b ∈ (foot ev o).wr → h2.get b = h1.get b) :
    ∃ h2', aop T ev h2 o.op = some (.val v h2') ∧ SameStep (foot ev o).wr h1 h1' h2 h2' := by
  unfold foot at hag ⊢
  cases ho : o.op <;> rw [ho] at hl <;> simp only [ho] at hag <;> simp only [aop] at hl ⊢ <;> (try (cases hl; done))
  case move x => cases hl; exact ⟨h2, rfl, SameStep.refl hn⟩
  case assign x => cases hl; exact ⟨h2, rfl, SameStep.refl hn⟩
  case pick c a b =>
    unfold opPick at hl ⊢
    split at hl <;> cases hl
    exact ⟨h2, rfl, SameStep.refl hn⟩
  case alloc elem =>
    unfold opAlloc at hl ⊢
    split at hl <;> cases hl
    rw [hn]
    exact ⟨_, rfl, SameStep.push hn _⟩
  case box elem x =>
    unfold opBox at hl ⊢
    split at hl <;> cases hl
    rename_i hne
    refine ⟨h2.push (.arr (ev x).cells false), ?_, SameStep.push hn _⟩
    rw [hn]
  case build t parts =>
    obtain ⟨hl2, rfl⟩ := optVal_inv hl
    exact ⟨h2, by rw [hl2]; rfl, SameStep.refl hn⟩
  case buildSlice t len parts =>
    have hl2 := optPair_inv hl
    unfold abuildSlice at hl2 ⊢
    split at hl2
    case h_2 => cases hl2
    split at hl2
    · cases hl2
    rename_i hb
    obtain ⟨h2', q1, q2⟩ := amakeRow_local hn hl2
    rw [if_neg hb, q1]
    exact ⟨h2', rfl, q2⟩
  case load t a =>
    obtain ⟨hl2, rfl⟩ := optVal_inv hl
    rw [aload_local (fun b hb => hag b (.inl hb)), hl2]
    exact ⟨h2, rfl, SameStep.refl hn⟩
  case store t a x =>
    obtain ⟨hl2, rfl⟩ := optHeap_inv hl
    obtain ⟨h2', q1, q2⟩ := astore_local hn (fun b hb => hag b (.inr hb)) hl2
    rw [q1]
    exact ⟨h2', rfl, q2⟩
  case nilCheck x =>
    unfold opNilCheck at hl ⊢
    split at hl <;> cases hl <;> exact ⟨h2, rfl, SameStep.refl hn⟩
  case binOp op t x y yt =>
    obtain ⟨hl2, rfl⟩ := optVal_inv hl
    exact ⟨h2, by rw [hl2]; rfl, SameStep.refl hn⟩
  case unOp op t x =>
    obtain ⟨hl2, rfl⟩ := optVal_inv hl
    exact ⟨h2, by rw [hl2]; rfl, SameStep.refl hn⟩
  case convert src dst x =>
    obtain ⟨hl2, rfl⟩ := optVal_inv hl
    exact ⟨h2, by rw [hl2]; rfl, SameStep.refl hn⟩
  case makeInterface t x =>
    unfold opMakeInterface at hl ⊢
    split at hl <;> cases hl
    exact ⟨h2, rfl, SameStep.refl hn⟩
  case makeFunc fn first captured =>
    unfold opMakeFunc at hl ⊢
    split at hl <;> cases hl
    exact ⟨h2, rfl, SameStep.refl hn⟩
  case makeMap t r =>
    unfold opMakeMap at hl ⊢
    split at hl <;> cases hl
    rw [hn]
    exact ⟨_, rfl, SameStep.push hn _⟩
  case makeSlice t l c =>
    have hl2 := optPair_inv hl
    unfold amakeSlice at hl2 ⊢
    split at hl2
    case h_2 => cases hl2
    split at hl2
    case h_2 => cases hl2
    split at hl2
    case isFalse => cases hl2
    rename_i hb
    obtain ⟨h2', q1, q2⟩ := amakeRow_local hn hl2
    rw [if_pos hb, q1]
    exact ⟨h2', rfl, q2⟩
  case slice t x lo hi mx =>
    obtain ⟨hl2, rfl⟩ := optVal_inv hl
    exact ⟨h2, by rw [hl2]; rfl, SameStep.refl hn⟩
  case fieldAddr s x f =>
    obtain ⟨hl2, rfl⟩ := optVal_inv hl
    exact ⟨h2, by rw [hl2]; rfl, SameStep.refl hn⟩
  case field t x f =>
    obtain ⟨hl2, rfl⟩ := optVal_inv hl
    exact ⟨h2, by rw [hl2]; rfl, SameStep.refl hn⟩
  case indexAddr t x ix =>
    obtain ⟨hl2, rfl⟩ := optVal_inv hl
    exact ⟨h2, by rw [hl2]; rfl, SameStep.refl hn⟩
  case index t x ix =>
    obtain ⟨hl2, rfl⟩ := optVal_inv hl
    exact ⟨h2, by rw [hl2]; rfl, SameStep.refl hn⟩
  case lookup t x ix b =>
    obtain ⟨hl2, rfl⟩ := optVal_inv hl
    rw [alookup_local (fun b hb => hag b (.inl hb)), hl2]
    exact ⟨h2, rfl, SameStep.refl hn⟩
  case mapUpdate t m k x =>
    obtain ⟨hl2, rfl⟩ := optHeap_inv hl
    obtain ⟨h2', q1, q2⟩ := amapUpdate_local hn (fun b hb => hag b (.inr hb)) hl2
    rw [q1]
    exact ⟨h2', rfl, q2⟩
  case insert t m k x =>
    obtain ⟨hl2, rfl⟩ := optHeap_inv hl
    obtain ⟨h2', q1, q2⟩ := amapUpdate_local hn (fun b hb => hag b (.inr hb)) hl2
    rw [q1]
    exact ⟨h2', rfl, q2⟩
  case extract t i =>
    unfold opExtract at hl ⊢
    split at hl
    · obtain ⟨hl2, rfl⟩ := optVal_inv hl
      exact ⟨h2, by rw [hl2]; rfl, SameStep.refl hn⟩
    · cases hl
  case call c =>
    unfold opCall at hl ⊢
    cases hc : c.callee <;> rw [hc] at hl <;> simp only [hc] at hag <;> simp only at hl ⊢ <;> (try (cases hl; done))
    rename_i b
    generalize hxs : c.args.toList.map ev = xs at hl hag ⊢
    unfold abuiltin at hl ⊢
    split at hl
    · split at hl
      case h_2 => cases hl
      obtain ⟨hl2, rfl⟩ := optVal_inv hl
      rw [alen_local (fun b hb => hag b (.inl (by simpa using hb))), hl2]
      exact ⟨h2, rfl, SameStep.refl hn⟩
    · have hl2 := optPair_inv hl
      obtain ⟨h2', q1, q2⟩ := aappend_local hn (fun b hb => hag b (.inr (by simpa using hb))) (fun b hb => hag b (.inl (by simpa using hb))) hl2
      rw [q1]
      exact ⟨h2', rfl, q2.mono (fun x hx => by simpa using hx)⟩
    · have hl2 := optPair_inv hl
      obtain ⟨h2', q1, q2⟩ := acopy_local hn (fun b hb => hag b (.inr (by simpa using hb))) (fun b hb => hag b (.inl (by simpa using hb))) hl2
      rw [q1]
      exact ⟨h2', rfl, q2.mono (fun x hx => by simpa using hx)⟩
    · obtain ⟨hl2, rfl⟩ := optVal_inv hl
      exact ⟨h2, by rw [hl2]; rfl, SameStep.refl hn⟩
    · obtain ⟨hl2, rfl⟩ := optVal_inv hl
      exact ⟨h2, by rw [hl2]; rfl, SameStep.refl hn⟩
    · cases hl

/- an operation looks at its operands alone -/
theorem evParts_congr {ev ev' : Operand → AVal} (ps : List (Nat × Operand)) (h : ∀ x ∈ ps.map (·.2), ev x = ev' x) : evParts ev ps = evParts ev' ps := by
  unfold evParts
  exact List.map_congr_left (fun p hp => by rw [h p.2 (List.mem_map.2 ⟨p, hp, rfl⟩)])

theorem omap_congr {ev ev' : Operand → AVal} (o : Option Operand) (h : ∀ x ∈ o.toArray.toList, ev x = ev' x) : o.map ev = o.map ev' := by
  cases o with
  | none => rfl
  | some x => simp [h x (by simp)]

theorem aop_congr {ev ev' : Operand → AVal} {op : Op} (h : ∀ x ∈ op.operands.toList, ev x = ev' x) (h1 : AHeap) : aop T ev h1 op = aop T ev' h1 op := by
  cases op <;> simp only [aop] <;> (try rfl)
  case move x => rw [h x (by simp [Op.operands])]
  case assign x => rw [h x (by simp [Op.operands])]
  case pick c a b => unfold opPick; rw [h c (by simp [Op.operands]), h a (by simp [Op.operands]), h b (by simp [Op.operands])]
  case box t x => unfold opBox; rw [h x (by simp [Op.operands])]
  case build t ps => rw [evParts_congr ps.toList (by simpa [Op.operands] using h)]
  case buildSlice t n ps => rw [evParts_congr ps.toList (by simpa [Op.operands] using h)]
  case load t a => rw [h a (by simp [Op.operands])]
  case store t a x => rw [h a (by simp [Op.operands]), h x (by simp [Op.operands])]
  case nilCheck x => rw [h x (by simp [Op.operands])]
  case binOp o t x y yt => rw [h x (by simp [Op.operands]), h y (by simp [Op.operands])]
  case unOp o t x => rw [h x (by simp [Op.operands])]
  case convert a b x => rw [h x (by simp [Op.operands])]
  case makeInterface t x => rw [h x (by simp [Op.operands])]
  case makeFunc fn first captured =>
    have h' : ∀ x, x ∈ first.toList ∨ x ∈ captured.toList → ev x = ev' x := fun x hx => h x (by simpa [Op.operands] using hx)
    rw [show opMakeFunc ev h1 fn first.toList captured.toList = opMakeFunc ev' h1 fn first.toList captured.toList from by
      unfold opMakeFunc
      rw [List.map_congr_left (fun x hx => h' x (.inl hx)), List.map_congr_left (fun x hx => h' x (.inr hx))]]
  case makeMap t r =>
    unfold opMakeMap
    cases r with
    | none => rfl
    | some x => simp only [h x (by simp [Op.operands])]
  case makeSlice t l c => rw [h l (by simp [Op.operands]), h c (by simp [Op.operands])]
  case slice t x lo hi mx =>
    have h' : ∀ y, y = x ∨ y ∈ lo.toArray.toList ∨ y ∈ hi.toArray.toList ∨ y ∈ mx.toArray.toList → ev y = ev' y := fun y hy => h y (by
      simp only [Op.operands, Array.toList_append, List.mem_append]
      rcases hy with rfl | hy | hy | hy
      · exact .inl (.inl (.inl (by simp)))
      · exact .inl (.inl (.inr hy))
      · exact .inl (.inr hy)
      · exact .inr hy)
    rw [h' x (.inl rfl), omap_congr lo (fun y hy => h' y (.inr (.inl hy))), omap_congr hi (fun y hy => h' y (.inr (.inr (.inl hy)))), omap_congr mx (fun y hy => h' y (.inr (.inr (.inr hy))))]
  case fieldAddr s x f => rw [h x (by simp [Op.operands])]
  case field t x f => rw [h x (by simp [Op.operands])]
  case indexAddr t x ix => rw [h x (by simp [Op.operands]), h ix (by simp [Op.operands])]
  case index t x ix => rw [h x (by simp [Op.operands]), h ix (by simp [Op.operands])]
  case lookup t x ix b => rw [h x (by simp [Op.operands]), h ix (by simp [Op.operands])]
  case mapUpdate t m k x => rw [h m (by simp [Op.operands]), h k (by simp [Op.operands]), h x (by simp [Op.operands])]
  case insert t m k x => rw [h m (by simp [Op.operands]), h k (by simp [Op.operands]), h x (by simp [Op.operands])]
  case extract t i => rw [h t (by simp [Op.operands])]
  case call c =>
    have h' : ∀ x, x ∈ c.operands.toList → ev x = ev' x := fun x hx => h x (by simpa [Op.operands] using hx)
    have ha : c.args.toList.map ev = c.args.toList.map ev' := List.map_congr_left (fun x hx => h' x (by simp only [Call.operands, Array.toList_append, List.mem_append]; exact .inr hx))
    unfold opCall
    cases hc : c.callee with
    | builtin b => simp only [ha]
    | value f => simp only [ha, h' f (by simp [Call.operands, hc])]
    | invoke r m => rfl

end

end Go.Ai
