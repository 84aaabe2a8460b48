/- An abstract interpreter for the model's code: a drawn region, run in any order that its edges allow. -/
import Derived.Test.YtpiblfbidgcjaaaAiDraw2
namespace Go.Ai
open Classical

structure Setup (T : Tab) (P : Program) (base : Nat) (call : Caller) (ops : Array Oper) (n : Nat) (st : Nat → AFrame × AHeap) (vl : Nat → AVal) (ft : Nat → Foot) (ex : Nat → Bool) : Prop where
  ok : T.Ok P
  hc : CallOk P base call
  hk : CallKeeps call
  hops : opsOk n ops
  hslots : slotsOk ops.toList ops.toList 0 = true
  tr : IsTrace T call ops.toList st vl ft ex 0 []
  run : ∀ i, i ≤ ops.size → ∃ ρi ti wi, ti.size = n ∧ FRel ρi (st i).1 ti ∧ HRel base ρi (st i).2 wi

section
variable {T : Tab} {P : Program} {base : Nat} {call : Caller} {ops : Array Oper} {n : Nat} {st : Nat → AFrame × AHeap} {vl : Nat → AVal} {ft : Nat → Foot} {ex : Nat → Bool}

theorem HRel.wm {ρ : Emb} {h : AHeap} {w : World} (hr : HRel base ρ h w) (x : Nat) : HRel base ρ { h with wm := x } w :=
  ⟨hr.toH0.congr (fun _ _ _ => rfl), hr.lt⟩

/- the run in the order of the text, laid beside a run of the model -/
theorem chain_ok (ok : T.Ok P) (hc : CallOk P base call) (hops : opsOk n ops) (tr : IsTrace T call ops.toList st vl ft ex 0 []) {ρ : Emb} {tmps : Array Value} {w : World} (hsz : tmps.size = n) (hf : FRel ρ (st 0).1 tmps) (hr : HRel base ρ (st 0).2 w) :
    ∀ i, i ≤ ops.size → ∃ ρi ti wi, ti.size = n ∧ FRel ρi (st i).1 ti ∧ HRel base ρi (st i).2 wi
  | 0, _ => ⟨ρ, tmps, w, hsz, hf, hr⟩
  | i + 1, hi => by
    obtain ⟨ρi, ti, wi, h1, h2, h3⟩ := chain_ok ok hc hops tr hsz hf hr i (by omega)
    have hlt : i < ops.size := by omega
    have hoi : ops[i]? = some ops[i] := Array.getElem?_eq_getElem hlt
    have hol : ops.toList[i]? = some ops[i] := by simp [hlt]
    have hmem : ops[i] ∈ ops.toList := List.mem_of_getElem? hol
    obtain ⟨hdst, hsv⟩ := hops _ hmem
    have hall : ∀ o ∈ ops.toList, ∀ d, o.dst = some d → d < ti.size := fun o' ho' d hd' => by rw [h1]; exact (hops o' ho').1 d hd'
    rcases tr.step i _ (Nat.zero_le _) hol with ⟨_, _, _, e⟩ | ⟨_, hw, h', hst, _, e⟩
    · rw [e]
      exact ⟨ρi, putT ti ops[i].dst undef, wi, by rw [size_putT]; exact h1, h2.putDst (fun d hd => hall _ hmem d hd) (.tuple' (.nil _)), h3⟩
    · have hwant := wanted_ok h2 hall hw
      obtain ⟨r', w', ρ', hrel, hr', ht', _⟩ := astep_ok ok hc h2 (h3.wm _) hst hsv hoi hwant 0 .normal none [] [] [] []
      cases r' with
      | pan _ => exact hrel.elim
      | ret v' =>
        rw [e]
        exact ⟨ρ', putT ti ops[i].dst v', w', by rw [size_putT]; exact h1, (h2.mono ht'.ext).putDst (fun d hd => hall _ hmem d hd) hrel, hr'.wm _⟩

variable (s : Setup T P base call ops n st vl ft ex)
include s

theorem Setup.ev {m t : Nat} (hm : m < ops.size) : (st (m + 1)).1.ev t = if dstOf ops.toList m = some t then vl m else (st m).1.ev t := by
  have hol : ops.toList[m]? = some ops[m] := by simp [hm]
  have hd : dstOf ops.toList m = ops[m].dst := by unfold dstOf; rw [hol]; rfl
  have key : ∀ v, AFrame.ev (putDst (st m).1 ops[m].dst v) t = if dstOf ops.toList m = some t then v else (st m).1.ev t := by
    intro v
    rw [hd]
    cases h : ops[m].dst with
    | none => simp [putDst]
    | some d =>
      simp only [putDst, AFrame.ev_set, Option.some.injEq]
      by_cases e : t = d
      · subst e; simp
      · rw [if_neg e, if_neg (fun q => e q.symm)]
  rcases s.tr.step m _ (Nat.zero_le _) hol with ⟨_, _, hv, e⟩ | ⟨_, hw, h', hst, _, e⟩
  · rw [e, hv]; exact key _
  · rw [e]; exact key _

theorem Setup.mono1 {m : Nat} (hm : m < ops.size) : (st m).2.next ≤ (st (m + 1)).2.next := by
  have hol : ops.toList[m]? = some ops[m] := by simp [hm]
  rcases s.tr.step m _ (Nat.zero_le _) hol with ⟨_, _, hv, e⟩ | ⟨_, hw, h', hst, _, e⟩
  · rw [e]; exact Nat.le_refl _
  · rw [e]; exact (astep_keeps s.hk hst).1

theorem Setup.mono {m k : Nat} (hmk : m ≤ k) (hk : k ≤ ops.size) : (st m).2.next ≤ (st k).2.next := by
  induction k with
  | zero => have : m = 0 := by omega
            subst this; exact Nat.le_refl _
  | succ k ih =>
    by_cases e : m = k + 1
    · subst e; exact Nat.le_refl _
    · exact Nat.le_trans (ih (by omega) (by omega)) (s.mono1 (by omega))

/- what an operation changes lies in its footprint -/
theorem Setup.chg {m b : Nat} (hm : m < ops.size) (hb : b < (st m).2.next) (hne : (st (m + 1)).2.get b ≠ (st m).2.get b) : ex m = true ∧ (b ∈ (ft m).wr ∨ (ft m).wall = true) := by
  have hol : ops.toList[m]? = some ops[m] := by simp [hm]
  rcases s.tr.step m _ (Nat.zero_le _) hol with ⟨_, _, hv, e⟩ | ⟨hex, hw, h', hst, hft, e⟩
  · rw [e] at hne; exact absurd rfl hne
  · refine ⟨hex, ?_⟩
    rw [e] at hne
    have hne : h'.get b ≠ (st m).2.get b := hne
    unfold astep at hst
    split at hst
    · rename_i v h2 ha
      cases hst
      obtain ⟨f1, f2⟩ := foot_val ha
      obtain ⟨h2', g1, g2⟩ := aop_local ha rfl (fun _ _ => rfl)
      rw [ha] at g1; cases g1
      have hf : ft m = foot (st m).1.op ops[m] := by rw [hft]; unfold footOf; rw [f1]; rfl
      rw [hf]
      rcases g2.2.2 b with ⟨q, _⟩ | ⟨_, q | ⟨q, _⟩⟩
      · exact absurd q hne
      · exact .inl q
      · exact absurd hb (by rw [q]; exact Nat.lt_irrefl _)
    · rename_i f as ha
      have hf : ft m = footOf ⟨[], true, [], false⟩ (st m).2 h' := by rw [hft, foot_call ha]
      right
      rw [hf]
      unfold footOf
      simp only [cond_true]
      cases hb2 : Nat.ble (st m).2.next h'.wm with
      | false => rfl
      | true =>
        exfalso
        have hle := Nat.le_of_ble_eq_true hb2
        have := (s.hk _ _ _ _ _ hst).2.2 b hb (Nat.lt_of_lt_of_le hb hle)
        exact hne this
    · cases hst

/- the footprint but for what it writes at large -/
theorem Setup.range_unique {m k b : Nat} (hm : m < ops.size) (hk : k < ops.size) (h1 : (st m).2.next ≤ b) (h2 : b < (st (m + 1)).2.next) (h3 : (st k).2.next ≤ b) (h4 : b < (st (k + 1)).2.next) : m = k := by
  rcases Nat.lt_trichotomy m k with q | q | q
  · have := s.mono (m := m + 1) (k := k) (by omega) (by omega); omega
  · exact q
  · have := s.mono (m := k + 1) (k := m) (by omega) (by omega); omega

end

/- where a run stands: the operations of S have run -/
structure Inv (base : Nat) (ops : Array Oper) (n : Nat) (st : Nat → AFrame × AHeap) (vl : Nat → AVal) (ρ0 : Emb) (w0 : World) (S : Nat → Prop) (ρ : Emb) (tmps : Array Value) (w : World) (hS : AHeap) : Prop where
  closed : Closed ops S
  lt : ∀ i, S i → i < ops.size
  size : tmps.size = n
  frame : ∀ t, VRel ρ (fcont ops.toList st vl S ops.size t) (tmps.getD t undef)
  cont : ∀ b l, ρ b = some l → hS.get b = hcont st S ops.size b
  heap : H0 base ρ hS w
  core : Core ρ0 (st 0).2 w0 ρ hS w
  dom : ∀ b l, ρ b = some l → ρ0 b = some l ∨ ∃ m, S m ∧ (st m).2.next ≤ b ∧ b < (st (m + 1)).2.next
  junk : ∀ m b, S m → b < (st m).2.next → ρ b = none → (st (m + 1)).2.get b = (st m).2.get b

section
variable {T : Tab} {P : Program} {base : Nat} {call : Caller} {ops : Array Oper} {n : Nat} {st : Nat → AFrame × AHeap} {vl : Nat → AVal} {ft : Nat → Foot} {ex : Nat → Bool}
variable {ρ0 : Emb} {w0 : World} {S : Nat → Prop} {ρ : Emb} {tmps : Array Value} {w : World} {hS : AHeap}
variable (s : Setup T P base call ops n st vl ft ex) (hl0 : ∀ b l, ρ0 b = some l → b < (st 0).2.next) (inv : Inv base ops n st vl ρ0 w0 S ρ tmps w hS)
variable {i : Nat} (hi : i < ops.size) (hn : ¬ S i) (hp : preds ops S i)

include s inv hi hn hp in
/- slots -/
theorem slot_of {o : Oper} (ho : ops.toList[i]? = some o) {t : Nat} (ht : t ∈ looks ops.toList o) : fcont ops.toList st vl S ops.size t = (st i).1.ev t := by
  rw [fcont_from (i := i) ops.size (by omega) ?_, fcont_upto i (fun m hm => s.ev (by omega)) ?_]
  · intro m hm hd
    have hml : m < ops.size := by omega
    have hom : ops.toList[m]? = some ops[m] := by simp [hml]
    rcases slotsOk_spec ops.toList ops.toList 0 s.hslots i o ho m ops[m] (by omega) hom with q | q
    · exfalso
      have hd' : ops[m].dst = some t := by unfold dstOf at hd; rw [hom] at hd; exact hd
      unfold slotsApart at q
      rw [hd'] at q
      simp only [Bool.and_eq_true] at q
      have := q.1.1
      simp at this
      exact this ht
    · rw [Nat.zero_add] at q
      exact mem_allBefore inv.closed hp q
  · intro m h1 h2 hm hd
    have hne : m ≠ i := fun e => hn (e ▸ hm)
    have hom : ops.toList[m]? = some ops[m] := by simp [h2]
    rcases slotsOk_spec ops.toList ops.toList 0 s.hslots m ops[m] hom i o (by omega) ho with q | q
    · have hd' : ops[m].dst = some t := by unfold dstOf at hd; rw [hom] at hd; exact hd
      unfold slotsApart at q
      rw [hd'] at q
      simp only [Bool.and_eq_true] at q
      have := q.2
      simp at this
      exact this ht
    · rw [Nat.zero_add] at q
      exact hn (mem_allBefore inv.closed (inv.closed m hm) q)

include s inv hn in
theorem slot_put {o : Oper} (ho : ops.toList[i]? = some o) {t : Nat} (ht : o.dst = some t) : ∀ m, i < m → m < ops.size → S m → dstOf ops.toList m ≠ some t := by
  intro m h1 h2 hm hd
  have hom : ops.toList[m]? = some ops[m] := by simp [h2]
  rcases slotsOk_spec ops.toList ops.toList 0 s.hslots m ops[m] hom i o (by omega) ho with q | q
  · have hd' : ops[m].dst = some t := by unfold dstOf at hd; rw [hom] at hd; exact hd
    unfold slotsApart at q
    rw [hd', ht] at q
    simp only [Bool.and_eq_true] at q
    have := q.1.2
    simp at this
  · rw [Nat.zero_add] at q
    exact hn (mem_allBefore inv.closed (inv.closed m hm) q)

include s hl0 inv hi hn in
/- nobody has laid a block where operation i will -/
theorem fresh_of {b : Nat} (h1 : (st i).2.next ≤ b) (h2 : b < (st (i + 1)).2.next) : ρ b = none := by
  cases h : ρ b with
  | none => rfl
  | some l =>
    exfalso
    rcases inv.dom b l h with q | ⟨m, hm, q1, q2⟩
    · have := hl0 b l q
      have := s.mono (m := 0) (k := i) (by omega) (by omega)
      omega
    · have := s.range_unique (inv.lt m hm) hi q1 q2 h1 h2
      exact hn (this ▸ hm)

include s hl0 inv hi hn in
theorem later_new {b : Nat} (h1 : (st i).2.next ≤ b) (h2 : b < (st (i + 1)).2.next) : ∀ m, i < m → m < ops.size → S m → ¬ Chg st m b := by
  intro m h3 h4 hm hc
  have hr := fresh_of s hl0 inv hi hn h1 h2
  have hle := s.mono (m := i + 1) (k := m) (by omega) (by omega)
  have := inv.junk m b hm (by omega) hr
  rcases hc.2 with q | q
  · omega
  · exact q this

include s hl0 inv hi hn hp in
/- what operation i looks at stands as in the order of the text -/
theorem foot_at (hex : ex i = true) {b : Nat} {l : Loc} (hb : ρ b = some l) (hlt : b < (st i).2.next) (hf : ¬ Clear (ft i) b) :
    hcont st S ops.size b = (st i).2.get b ∧ ∀ m, i < m → m < ops.size → S m → ¬ Chg st m b := by
  have later : ∀ m, i < m → m < ops.size → S m → ¬ Chg st m b := by
    intro m h3 h4 hm hc
    have hle := s.mono (m := i) (k := m) (by omega) (by omega)
    rcases hc.2 with q | q
    · omega
    · obtain ⟨e1, e2⟩ := s.chg h4 (by omega) q
      rcases s.tr.apart i m (Nat.zero_le _) h3 (by simpa using h4) e1 hex with a | a
      · exact hf (apart_right a e2)
      · exact hn (mem_allBefore inv.closed (inv.closed m hm) a)
  refine ⟨?_, later⟩
  rw [hcont_from (i := i) ops.size (by omega) ?_, hcont_upto i hlt (fun m hm => s.mono1 (by omega)) ?_]
  · intro m hm hc
    by_cases hbm : b < (st m).2.next
    · have hne : (st (m + 1)).2.get b ≠ (st m).2.get b := hc.2.resolve_left (by omega)
      obtain ⟨e1, e2⟩ := s.chg (by omega) hbm hne
      rcases s.tr.apart m i (Nat.zero_le _) hm (by simpa using hi) hex e1 with a | a
      · exact absurd (apart_left a e2) hf
      · exact mem_allBefore inv.closed hp a
    · rcases inv.dom b l hb with q | ⟨m', hm', q1, q2⟩
      · have := hl0 b l q
        have := s.mono (m := 0) (k := m) (by omega) (by omega)
        omega
      · have := s.range_unique (inv.lt m' hm') (by omega) q1 q2 (by omega : (st m).2.next ≤ b) hc.1
        exact this ▸ hm'
  · intro m h1 h2 hm
    by_cases e : m = i
    · exact absurd (e ▸ hm) hn
    · exact later m (by omega) h2 hm

end

/- two embeddings, the newer first -/
noncomputable def union (ρ' ρ : Emb) : Emb := fun b => if (ρ' b).isSome then ρ' b else ρ b

theorem union_left {ρ' ρ : Emb} {b : Nat} {l : Loc} (h : ρ' b = some l) : union ρ' ρ b = some l := by
  unfold union; rw [h]; rfl
theorem union_right {ρ' ρ : Emb} {b : Nat} (h : ρ' b = none) : union ρ' ρ b = ρ b := by
  unfold union; rw [h]; rfl

section
variable {base : Nat} {ρ ρs ρ' : Emb} {hS g g' h2 : AHeap} {w w' : World}

/- a step that starts from a part of what is laid -/
theorem merge_ok (hr : H0 base ρ hS w) (hsub : Ext ρs ρ) (hg : ∀ b l, ρs b = some l → g.get b = hS.get b) (ht : Trans ρs g w ρ' g' w') (hr' : H0 base ρ' g' w')
    (hfr : ∀ b, g.next ≤ b → b < g'.next → ρ b = none) (ha : ∀ b l, ρ' b = some l → h2.get b = g'.get b) (hb : ∀ b l, ρ b = some l → ρ' b = none → h2.get b = hS.get b) :
    Ext ρ (union ρ' ρ) ∧ Ext ρ' (union ρ' ρ) ∧ H0 base (union ρ' ρ) h2 w' ∧ Core ρ hS w (union ρ' ρ) h2 w' := by
  have dom' : ∀ b l, ρ' b = some l → ρs b = some l ∨ (g.next ≤ b ∧ b < g'.next) := ht.dom
  have e1 : Ext ρ (union ρ' ρ) := by
    intro b l h
    cases h' : ρ' b with
    | none => rw [union_right h']; exact h
    | some l' =>
      rw [union_left h']
      rcases dom' b l' h' with q | ⟨q1, q2⟩
      · have := hsub b l' q
        rw [h] at this; cases this; rfl
      · rw [hfr b q1 q2] at h; cases h
  have e2 : Ext ρ' (union ρ' ρ) := fun b l h => union_left h
  have ows : ∀ b l, ρs b = some l → (Owns g b ↔ Owns hS b) := fun b l h => by unfold Owns; rw [hg b l h]
  have als : ∀ b l, ρs b = some l → (Alive g b ↔ Alive hS b) := fun b l h => by unfold Alive; rw [hg b l h]
  have ow' : ∀ b l, ρ' b = some l → (Owns h2 b ↔ Owns g' b) := fun b l h => by unfold Owns; rw [ha b l h]
  have al' : ∀ b l, ρ' b = some l → (Alive h2 b ↔ Alive g' b) := fun b l h => by unfold Alive; rw [ha b l h]
  have owr : ∀ b l, ρ b = some l → ρ' b = none → (Owns h2 b ↔ Owns hS b) := fun b l h h' => by unfold Owns; rw [hb b l h h']
  have alr : ∀ b l, ρ b = some l → ρ' b = none → (Alive h2 b ↔ Alive hS b) := fun b l h h' => by unfold Alive; rw [hb b l h h']
  have cases' : ∀ b l, union ρ' ρ b = some l → ρ' b = some l ∨ (ρ' b = none ∧ ρ b = some l) := by
    intro b l h
    cases h' : ρ' b with
    | none => rw [union_right h'] at h; exact .inr ⟨rfl, h⟩
    | some l' => rw [union_left h'] at h; exact .inl h
  have nos : ∀ b, ρ' b = none → ρs b = none := by
    intro b h
    cases h' : ρs b with
    | none => rfl
    | some l => rw [ht.ext b l h'] at h; cases h
  refine ⟨e1, e2, ⟨?_, ?_, ?_, ?_⟩, ⟨e1, ht.size, ?_, ?_, ht.os, ht.tape, ht.output, ?_⟩⟩
  · intro b l h
    rcases cases' b l h with q | ⟨_, q⟩
    · exact hr'.clt b l q
    · exact Nat.lt_of_lt_of_le (hr.clt b l q) ht.size
  · intro b l h
    rcases cases' b l h with q | ⟨q1, q⟩
    · rw [ha b l q]
      exact (hr'.blk b l q).mono e2 rfl
    · rw [hb b l q q1]
      by_cases al : Alive hS b
      · refine (hr.blk b l q).mono e1 (ht.frame l.c (hr.clt b l q) ?_)
        intro b1 l1 h1 ho1
        refine hr.inj b1 b l1 l (hsub b1 l1 h1) q ?_ ((ows b1 l1 h1).1 ho1) al
        rintro rfl
        rw [nos b1 q1] at h1; cases h1
      · have hblk := hr.blk b l q
        unfold Alive at al
        cases hx : hS.get b with
        | none => rw [hx] at hblk; exact hblk.elim
        | some x =>
          rw [hx] at al
          cases x with
          | dead => trivial
          | arr _ _ => exact absurd trivial al
          | mp _ => exact absurd trivial al
          | loop _ => exact absurd trivial al
  · intro b b' l l' h h' hne ho hal
    rcases cases' b l h with q | ⟨q1, q⟩ <;> rcases cases' b' l' h' with p | ⟨p1, p⟩
    · exact hr'.inj b b' l l' q p hne ((ow' b l q).1 ho) ((al' b' l' p).1 hal)
    · have hog := (ow' b l q).1 ho
      have hah := (alr b' l' p p1).1 hal
      rcases ht.own b l q hog.alive with ⟨g1, g2, g3⟩ | g1 | ⟨b0, l0, g1, g2, g3⟩
      · exact hr.inj b b' l l' (hsub b l g1) p hne ((ows b l g1).1 (g3 hog)) hah
      · have := hr.clt b' l' p; omega
      · have := hr.inj b0 b' l0 l' (hsub b0 l0 g1) p (fun e => by rw [e, nos b' p1] at g1; cases g1) ((ows b0 l0 g1).1 g2) hah
        omega
    · have hog := (owr b l q q1).1 ho
      have hah := (al' b' l' p).1 hal
      rcases ht.own b' l' p hah with ⟨g1, g2, g3⟩ | g1 | ⟨b0, l0, g1, g2, g3⟩
      · exact hr.inj b b' l l' q (hsub b' l' g1) hne hog ((als b' l' g1).1 g2)
      · have := hr.clt b l q; omega
      · have := hr.inj b0 b l0 l (hsub b0 l0 g1) q (fun e => by rw [e, nos b q1] at g1; cases g1) ((ows b0 l0 g1).1 g2) hog.alive
        omega
    · exact hr.inj b b' l l' q p hne ((owr b l q q1).1 ho) ((alr b' l' p p1).1 hal)
  · exact Nat.le_trans hr.base ht.size
  · intro k hk hb'
    exact ht.frame k hk (fun b l h1 h2 => hb' b l (hsub b l h1) ((ows b l h1).1 h2))
  · intro b l h hal
    rcases cases' b l h with q | ⟨q1, q⟩
    · rcases ht.own b l q ((al' b l q).1 hal) with ⟨g1, g2, g3⟩ | g1 | ⟨b0, l0, g1, g2, g3⟩
      · exact .inl ⟨hsub b l g1, (als b l g1).1 g2, fun z => (ows b l g1).1 (g3 ((ow' b l q).1 z))⟩
      · exact .inr (.inl g1)
      · exact .inr (.inr ⟨b0, l0, hsub b0 l0 g1, (ows b0 l0 g1).1 g2, g3⟩)
    · exact .inl ⟨q, (alr b l q q1).1 hal, fun z => (owr b l q q1).1 z⟩
  · intro b l L h hL
    cases hs : ρs b with
    | some l2 =>
      have hL' : g.get b = some (.loop L) := by rw [hg b l2 hs]; exact hL
      obtain ⟨L', g1, g2⟩ := ht.loops b l2 L hs hL'
      exact ⟨L', by rw [ha b l2 (ht.ext b l2 hs)]; exact g1, g2⟩
    | none =>
      have hnone : ρ' b = none := by
        cases h' : ρ' b with
        | none => rfl
        | some l' =>
          rcases dom' b l' h' with q | ⟨q1, q2⟩
          · rw [hs] at q; cases q
          · rw [hfr b q1 q2] at h; cases h
      exact ⟨L, by rw [hb b l h hnone]; exact hL, .refl L⟩

end

end Go.Ai
