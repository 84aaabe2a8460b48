/- An abstract interpreter for the model's code: one more operation of a drawn region; the whole region. -/
import Derived.Test.YtpiblfbidgcjaaaAiDraw3
namespace Go.Ai
open Classical

def opF (f : Nat → AVal) : Operand → AVal
  | .tmp t => f t
  | x => AFrame.op .leaf x

theorem opF_op (fr : AFrame) (x : Operand) : fr.op x = opF fr.ev x := by cases x <;> rfl

theorem opF_rel {ρ : Emb} {f : Nat → AVal} {tmps : Array Value} (h : ∀ t, VRel ρ (f t) (tmps.getD t undef)) (x : Operand) : VRel ρ (opF f x) (evT tmps x) := by
  cases x with
  | tmp t => exact h t
  | const v =>
    show VRel ρ ((ofVal v).getD .undef) v
    cases h : ofVal v with
    | none => exact .undef v
    | some y => exact ofVal_rel ρ v y h
  | global g => exact .undef _
  | func f => exact .func _ _ [] [] #[] #[] (.inr ⟨f, rfl, rfl⟩) rfl rfl (by simp) (by simp)

theorem looks_operand {ops : List Oper} {o : Oper} {t : Nat} (h : Operand.tmp t ∈ o.op.operands.toList) : t ∈ looks ops o := by
  unfold looks
  exact List.mem_append.2 (.inl (List.mem_flatMap.2 ⟨_, h, by simp [slotsOf]⟩))

section
variable {T : Tab} {P : Program} {base : Nat} {call : Caller} {ops : Array Oper} {n : Nat} {st : Nat → AFrame × AHeap} {vl : Nat → AVal} {ft : Nat → Foot} {ex : Nat → Bool}
variable {ρ0 : Emb} {w0 : World} {S : Nat → Prop} {ρ : Emb} {tmps : Array Value} {w : World} {hS : AHeap}
variable (s : Setup T P base call ops n st vl ft ex) (hl0 : ∀ b l, ρ0 b = some l → b < (st 0).2.next) (inv : Inv base ops n st vl ρ0 w0 S ρ tmps w hS)
variable {i : Nat} (hi : i < ops.size) (hn : ¬ S i) (hp : preds ops S i)

include s inv hi hn hp in
theorem operand_of {o : Oper} (ho : ops.toList[i]? = some o) {x : Operand} (hx : x ∈ o.op.operands.toList) : (st i).1.op x = opF (fcont ops.toList st vl S ops.size) x := by
  rw [opF_op]
  cases x with
  | tmp t => exact (slot_of s inv hi hn hp ho (looks_operand hx)).symm
  | const v => rfl
  | global g => rfl
  | func f => rfl

include inv hi hp in
theorem closed_add : Closed ops (fun x => S x ∨ x = i) := by
  intro j hj o ho e he hb
  rcases hj with hj | hj
  · exact .inl (inv.closed j hj o ho e he hb)
  · subst hj; exact .inl (hp o ho e he hb)

include s inv hi hn in
/- the frame after the step -/
theorem frame_add {o : Oper} (ho : ops.toList[i]? = some o) {ρ2 : Emb} {v' : Value} (he : Ext ρ ρ2) (hv : VRel ρ2 (vl i) v') (hd : ∀ d, o.dst = some d → d < tmps.size) (t : Nat) :
    VRel ρ2 (fcont ops.toList st vl (fun x => S x ∨ x = i) ops.size t) ((putT tmps o.dst v').getD t undef) := by
  have hdo : dstOf ops.toList i = o.dst := by unfold dstOf; rw [ho]; rfl
  by_cases e : o.dst = some t
  · rw [(fcont_add hn ops.size).2 (hdo.trans e) hi (slot_put s inv hn ho e)]
    rw [e]
    have hlt := hd t e
    simp [putT, Array.getD, hlt]
    exact hv
  · rw [(fcont_add hn ops.size).1 (by rw [hdo]; exact e)]
    have := (inv.frame t).mono he
    cases hdst : o.dst with
    | none => exact this
    | some d =>
      have hne : d ≠ t := fun q => e (by rw [hdst, q])
      simp only [putT]
      rw [show (tmps.setIfInBounds d v').getD t undef = tmps.getD t undef from by
        simp [Array.getD_eq_getD_getElem?, Array.getElem?_setIfInBounds, hne]]
      exact this

variable (fn : FuncId) (kind : CallKind) (rnd : Option Nat) (ds : List Deferred) (is : List Nat) (k : List Item) (cs : List Frame)

/- where the run goes from here -/
def Goes (P : Program) (base : Nat) (ops : Array Oper) (n : Nat) (st : Nat → AFrame × AHeap) (vl : Nat → AVal) (ρ0 : Emb) (w0 : World) (S : Nat → Prop) (i : Nat) (tmps : Array Value) (w : World)
    (fn : FuncId) (kind : CallKind) (rnd : Option Nat) (ds : List Deferred) (is : List Nat) (k : List Item) (cs : List Frame) : Prop :=
  ∃ ρ2 tmps2 w2 h2, Inv base ops n st vl ρ0 w0 (fun x => S x ∨ x = i) ρ2 tmps2 w2 h2 ∧
      Steps P (lone (fat fn kind rnd tmps ds (.inRegion ops (i :: is) :: k)) cs w) (lone (fat fn kind rnd tmps2 ds (.inRegion ops is :: k)) cs w2)

include s inv hi hn hp in
theorem goes_skip {o : Oper} (ho : ops.toList[i]? = some o) (hd : ∀ d, o.dst = some d → d < tmps.size) (hw : Region.wanted o (yielded ops tmps) = false) (hv : vl i = unit) (e : (st (i + 1)).2 = (st i).2) :
    Goes P base ops n st vl ρ0 w0 S i tmps w fn kind rnd ds is k cs := by
  have hoi : ops[i]? = some o := by simpa using ho
  have hnc : ∀ b, ρ b ≠ none → ¬ Chg st i b := by
    intro b _ hc
    unfold Chg at hc
    rw [e] at hc
    rcases hc.2 with q | q
    · have := hc.1; omega
    · exact q rfl
  refine ⟨ρ, putT tmps o.dst undef, w, hS, ⟨closed_add inv hi hp, ?_, by rw [size_putT]; exact inv.size, ?_, ?_, inv.heap, inv.core, ?_, ?_⟩, ?_⟩
  · rintro j (hj | rfl)
    · exact inv.lt j hj
    · exact hi
  · exact frame_add s inv hi hn ho (.refl _) (by rw [hv]; exact .tuple' (.nil _)) hd
  · intro b l hb
    rw [(hcont_add hn ops.size).1 (hnc b (by rw [hb]; simp))]
    exact inv.cont b l hb
  · intro b l hb
    rcases inv.dom b l hb with q | ⟨m, hm, q⟩
    · exact .inl q
    · exact .inr ⟨m, .inl hm, q⟩
  · intro m b hm hb hr
    rcases hm with hm | rfl
    · exact inv.junk m b hm hb hr
    · rw [e]
  · have hst := st_op_skip (P := P) (fn := fn) (kind := kind) (rnd := rnd) (tmps := tmps) (ds := ds) (k := k) (cs := cs) (w := w) (ops := ops) (i := i) (is := is) (by simp [hoi, hw])
    rw [hoi] at hst
    simp only [Option.bind_some] at hst
    exact .one hst

include s hl0 inv hi hn hp in
/- a step that lays ρ' from a part of what is laid -/
theorem goes_of {o : Oper} (ho : ops.toList[i]? = some o) (hd : ∀ d, o.dst = some d → d < tmps.size) {ρs ρ' : Emb} {g g' : AHeap} {w' : World} {v' : Value}
    (hsub : Ext ρs ρ) (hg : ∀ b l, ρs b = some l → g.get b = hS.get b) (ht : Trans ρs g w ρ' g' w') (hr' : H0 base ρ' g' w') (hv : VRel ρ' (vl i) v')
    (gn : g.next = (st i).2.next) (gn' : g'.next = (st (i + 1)).2.next)
    (ha : ∀ b l, ρ' b = some l → g'.get b = hcont st (fun x => S x ∨ x = i) ops.size b)
    (hb : ∀ b l, ρ b = some l → ρ' b = none → ¬ Chg st i b)
    (hj : ∀ b, b < (st i).2.next → ρ b = none → (st (i + 1)).2.get b = (st i).2.get b)
    (hst : Steps P (lone (fat fn kind rnd tmps ds (.inRegion ops (i :: is) :: k)) cs w) (lone (fat fn kind rnd (putT tmps o.dst v') ds (.inRegion ops is :: k)) cs w')) :
    Goes P base ops n st vl ρ0 w0 S i tmps w fn kind rnd ds is k cs := by
  have hbound : ∀ b l, union ρ' ρ b = some l → b < (st ops.size).2.next := by
    intro b l h
    have old : ∀ l, ρ b = some l → b < (st ops.size).2.next := by
      intro l h
      rcases inv.dom b l h with q | ⟨m, hm, q1, q2⟩
      · have := hl0 b l q
        have := s.mono (m := 0) (k := ops.size) (by omega) (by omega)
        omega
      · have := inv.lt m hm
        have := s.mono (m := m + 1) (k := ops.size) (by omega) (by omega)
        omega
    cases h' : ρ' b with
    | none => rw [union_right h'] at h; exact old l h
    | some l' =>
      rcases ht.dom b l' h' with q | ⟨q1, q2⟩
      · exact old l' (hsub b l' q)
      · have := s.mono (m := i + 1) (k := ops.size) (by omega) (by omega)
        omega
  obtain ⟨h2, hn2, hget⟩ := mkHeap (hcont st (fun x => S x ∨ x = i) ops.size) 0 (st ops.size).2.next
  have hcont2 : ∀ b l, union ρ' ρ b = some l → h2.get b = hcont st (fun x => S x ∨ x = i) ops.size b := fun b l h => by
    rw [hget, if_pos (hbound b l h)]
  have ha2 : ∀ b l, ρ' b = some l → h2.get b = g'.get b := fun b l h => by rw [hcont2 b l (union_left h), ha b l h]
  have hb2 : ∀ b l, ρ b = some l → ρ' b = none → h2.get b = hS.get b := fun b l h h' => by
    rw [hcont2 b l (by rw [union_right h']; exact h), (hcont_add hn ops.size).1 (hb b l h h'), inv.cont b l h]
  obtain ⟨e1, e2, m1, m2⟩ := merge_ok inv.heap hsub hg ht hr' (fun b h1 h2 => fresh_of s hl0 inv hi hn (by omega) (by omega)) ha2 hb2
  refine ⟨union ρ' ρ, putT tmps o.dst v', w', h2, ⟨closed_add inv hi hp, ?_, by rw [size_putT]; exact inv.size, ?_, hcont2, m1, inv.core.trans m2, ?_, ?_⟩, hst⟩
  · rintro j (hj | rfl)
    · exact inv.lt j hj
    · exact hi
  · exact frame_add s inv hi hn ho e1 (hv.mono e2) hd
  · intro b l h
    have old : ρ b = some l → ρ0 b = some l ∨ ∃ m, (S m ∨ m = i) ∧ (st m).2.next ≤ b ∧ b < (st (m + 1)).2.next := by
      intro h
      rcases inv.dom b l h with q | ⟨m, hm, q⟩
      · exact .inl q
      · exact .inr ⟨m, .inl hm, q⟩
    cases h' : ρ' b with
    | none => rw [union_right h'] at h; exact old h
    | some l' =>
      have hl : l' = l := by rw [union_left h'] at h; cases h; rfl
      subst hl
      rcases ht.dom b l' h' with q | ⟨q1, q2⟩
      · exact old (hsub b l' q)
      · exact .inr ⟨i, .inr rfl, by omega, by omega⟩
  · intro m b hm hlt hr
    have hr1 : ρ b = none := by
      cases h : ρ b with
      | none => rfl
      | some l => rw [e1 b l h] at hr; cases hr
    rcases hm with hm | rfl
    · exact inv.junk m b hm hlt hr1
    · exact hj b hlt hr1

include s inv hi hn hp in
theorem foot_dom {o : Oper} (ho : ops.toList[i]? = some o) {b : Nat} (hb : b ∈ (foot (st i).1.op o).rd ∨ b ∈ (foot (st i).1.op o).wr) : (∃ l, ρ b = some l) ∧ b < (st i).2.next := by
  obtain ⟨a, ha, hb⟩ := foot_operand hb
  constructor
  · rw [operand_of s inv hi hn hp ho ha] at hb
    exact blkOf_dom (opF_rel inv.frame a) hb
  · obtain ⟨ρi, ti, wi, h1, h2, h3⟩ := s.run i (by omega)
    obtain ⟨l, hl⟩ := blkOf_dom (op_rel h2 a) hb
    exact h3.lt b l hl

include hi hn in
/- the contents after the step, where operation i has its say -/
theorem cont_new {b : Nat} (hc : (st (i + 1)).2.get b ≠ (st i).2.get b ∨ (st i).2.next ≤ b) (hlt : b < (st (i + 1)).2.next) (hl : ∀ m, i < m → m < ops.size → S m → ¬ Chg st m b) :
    hcont st (fun x => S x ∨ x = i) ops.size b = (st (i + 1)).2.get b :=
  (hcont_add hn ops.size).2 ⟨hlt, hc.symm⟩ hi hl

include s hl0 inv hi hn hp in
theorem goes_value {o : Oper} (ho : ops.toList[i]? = some o) (hd : ∀ d, o.dst = some d → d < tmps.size) (hw : Region.wanted o (yielded ops tmps) = true) (hs : opServed o.op = true)
    (hex : ex i = true) {h' : AHeap} (ha : aop T (st i).1.op { (st i).2 with wm := (st i).2.next } o.op = some (.val (vl i) h'))
    (hft : ft i = foot (st i).1.op o) (e : (st (i + 1)).2 = { h' with wm := min (st i).2.wm h'.wm }) :
    Goes P base ops n st vl ρ0 w0 S i tmps w fn kind rnd ds is k cs := by
  have hoi : ops[i]? = some o := by simpa using ho
  have egt : ∀ b, (st (i + 1)).2.get b = h'.get b := fun b => by rw [e]; rfl
  have enx : (st (i + 1)).2.next = h'.next := by rw [e]
  have hat : ∀ b, b ∈ (foot (st i).1.op o).rd ∨ b ∈ (foot (st i).1.op o).wr → (∃ l, ρ b = some l) ∧ b < (st i).2.next ∧ hcont st S ops.size b = (st i).2.get b ∧ ∀ m, i < m → m < ops.size → S m → ¬ Chg st m b := by
    intro b hb
    obtain ⟨⟨l, hl⟩, hlt⟩ := foot_dom s inv hi hn hp ho hb
    refine ⟨⟨l, hl⟩, hlt, foot_at s hl0 inv hi hn hp hex hl hlt (fun c => ?_)⟩
    rw [hft] at c
    rcases hb with hb | hb
    · exact c.rd hb
    · exact c.wr hb
  obtain ⟨h2', g1, g2⟩ := aop_local (h2 := { hS with next := (st i).2.next, wm := (st i).2.next }) ha rfl (fun b hb => by
    obtain ⟨⟨l, hl⟩, hlt, hc, _⟩ := hat b hb
    show hS.get b = (st i).2.get b
    rw [inv.cont b l hl, hc])
  rw [aop_congr (ev' := opF (fcont ops.toList st vl S ops.size)) (fun x hx => operand_of s inv hi hn hp ho hx)] at g1
  have hH : H0 base ρ { hS with next := (st i).2.next, wm := (st i).2.next } w := inv.heap.congr (fun _ _ _ => rfl)
  obtain ⟨nx, v', w', ρ', q1, q2, q3, q4, q5⟩ := aop_ok s.ok (o := o) hH (fun hne => by
    have hne : h2'.next ≠ (st i).2.next := hne
    refine fresh_of s hl0 inv hi hn (b := (st i).2.next) (Nat.le_refl _) ?_
    have a1 : h2'.next = h'.next := g2.1
    have a2 : h'.next = (st i).2.next ∨ h'.next = (st i).2.next + 1 := g2.2.1
    omega) (fun x => opF_rel inv.frame x) g1
  have hnx : h2'.next = (st (i + 1)).2.next := by rw [enx]; exact g2.1
  refine goes_of s hl0 inv hi hn hp fn kind rnd ds is k cs ho hd (ρs := ρ) (ρ' := ρ') (g := { hS with next := (st i).2.next, wm := (st i).2.next }) (g' := h2') (.refl _) (fun _ _ _ => rfl) q5 q4 q3 rfl hnx ?_ ?_ ?_ ?_
  · intro b l hb
    have hbd : (∃ l, ρ b = some l) ∨ ((st i).2.next ≤ b ∧ b < (st (i + 1)).2.next) := by
      rcases q5.dom b l hb with z | ⟨z1, z2⟩
      · exact .inl ⟨l, z⟩
      · exact .inr ⟨z1, by rw [← hnx]; exact z2⟩
    rcases g2.2.2 b with ⟨z1, z2, z3⟩ | ⟨z1, z2⟩
    · have hnr : ¬ ((st i).2.next ≤ b ∧ b < (st (i + 1)).2.next) := by
        rintro ⟨y1, y2⟩
        rw [enx] at y2
        have := g2.2.1
        simp only at z3 this
        omega
      have hnc : ¬ Chg st i b := by
        rintro ⟨c1, c2⟩
        rcases c2 with c2 | c2
        · exact hnr ⟨c2, c1⟩
        · exact c2 ((egt b).trans z1)
      obtain ⟨l1, hl1⟩ := hbd.resolve_right hnr
      rw [z2, (hcont_add hn ops.size).1 hnc]
      exact inv.cont b l1 hl1
    · rw [z1, ← egt b]
      rcases z2 with z2 | ⟨z2, z3⟩
      · obtain ⟨⟨l1, hl1⟩, hlt, hc, hlat⟩ := hat b (.inr z2)
        by_cases hch : Chg st i b
        · exact ((hcont_add hn ops.size).2 hch hi hlat).symm
        · rw [(hcont_add hn ops.size).1 hch, hc]
          have hlt2 : b < (st (i + 1)).2.next := Nat.lt_of_lt_of_le hlt (s.mono1 hi)
          by_cases q : (st (i + 1)).2.get b = (st i).2.get b
          · exact q
          · exact absurd ⟨hlt2, .inr q⟩ hch
      · simp only at z2 z3
        have h1 : (st i).2.next ≤ b := by omega
        have h2 : b < (st (i + 1)).2.next := by omega
        exact (cont_new hi hn (.inr h1) h2 (later_new s hl0 inv hi hn h1 h2)).symm
  · intro b l hb hb'
    rw [q5.ext b l hb] at hb'; cases hb'
  · intro b hlt hr
    rw [egt]
    rcases g2.2.2 b with ⟨z1, z2, z3⟩ | ⟨z1, z2⟩
    · exact z1
    · rcases z2 with z2 | ⟨z2, z3⟩
      · obtain ⟨⟨l1, hl1⟩, _⟩ := hat b (.inr z2)
        rw [hr] at hl1; cases hl1
      · simp only at z2; omega
  · exact .one (st_op_value hoi hw hs q1 q2)

include s hl0 inv hi hn hp in
theorem goes_call {o : Oper} (ho : ops.toList[i]? = some o) (hd : ∀ d, o.dst = some d → d < tmps.size) (hw : Region.wanted o (yielded ops tmps) = true) (hs : opServed o.op = true)
    (hex : ex i = true) {f : AVal} {as : List AVal} {h' : AHeap} (ha : aop T (st i).1.op { (st i).2 with wm := (st i).2.next } o.op = some (.call f as)) (hcl : call f as { (st i).2 with wm := (st i).2.next } = some (.ret (vl i), h'))
    (hft : (ft i).rall = true) (e : (st (i + 1)).2 = { h' with wm := min (st i).2.wm h'.wm }) :
    Goes P base ops n st vl ρ0 w0 S i tmps w fn kind rnd ds is k cs := by
  have hoi : ops[i]? = some o := by simpa using ho
  have egt : ∀ b, (st (i + 1)).2.get b = h'.get b := fun b => by rw [e]; rfl
  have enx : (st (i + 1)).2.next = h'.next := by rw [e]
  obtain ⟨ρi, ti, wi, r1, r2, r3⟩ := s.run i (by omega)
  have hat : ∀ b l, inter ρ ρi b = some l → hcont st S ops.size b = (st i).2.get b ∧ ∀ m, i < m → m < ops.size → S m → ¬ Chg st m b := by
    intro b l hb
    obtain ⟨h1, li, h2⟩ := inter_inv hb
    refine foot_at s hl0 inv hi hn hp hex h1 (r3.lt b li h2) (fun c => ?_)
    have := c.rall
    rw [hft] at this; cases this
  have hget : ∀ b l, inter ρ ρi b = some l → (st i).2.get b = hS.get b := fun b l hb => by
    rw [inv.cont b l (inter_inv hb).1, (hat b l hb).1]
  have hH : HRel base (inter ρ ρi) { (st i).2 with wm := (st i).2.next } w := by
    refine ⟨⟨?_, ?_, ?_, inv.heap.base⟩, ?_⟩
    · intro b l hb; exact inv.heap.clt b l (inter_inv hb).1
    · intro b l hb
      obtain ⟨h1, li, h2⟩ := inter_inv hb
      have g1 := inv.heap.blk b l h1
      rw [← hget b l hb] at g1
      exact g1.inter (r3.blk b li h2)
    · intro b b' l l' hb hb' hne ho ha
      refine inv.heap.inj b b' l l' (inter_inv hb).1 (inter_inv hb').1 hne ?_ ?_
      · unfold Owns at ho ⊢; rw [← hget b l hb]; exact ho
      · unfold Alive at ha ⊢; rw [← hget b' l' hb']; exact ha
    · intro b l hb
      obtain ⟨h1, li, h2⟩ := inter_inv hb
      exact r3.lt b li h2
  have hop : ∀ x ∈ o.op.operands.toList, VRel (inter ρ ρi) ((st i).1.op x) (evT tmps x) := by
    intro x hx
    have h1 := opF_rel inv.frame x
    rw [← operand_of s inv hi hn hp ho hx] at h1
    exact h1.inter (op_rel r2 x)
  obtain ⟨c, fo, hopc, hcal, rfl, rfl⟩ := aop_call_inv ha
  have hfo : fo ∈ o.op.operands.toList := by rw [hopc]; simp [Op.operands, Call.operands, hcal]
  have hargs : LRel (inter ρ ρi) (c.args.toList.map (st i).1.op) (c.args.map (evT tmps)).toList := by
    refine ⟨by simp, fun j v v' hv hv' => ?_⟩
    rw [Array.toList_map] at hv'
    rw [List.getElem?_map] at hv hv'
    cases hx : c.args.toList[j]? with
    | none => rw [hx] at hv; cases hv
    | some x =>
      rw [hx] at hv hv'
      cases hv; cases hv'
      refine hop x ?_
      rw [hopc]
      simp only [Op.operands, Call.operands, Array.toList_append, List.mem_append]
      exact .inr (List.mem_of_getElem? hx)
  obtain ⟨nx, fs, h1, h2, h3⟩ := s.hc _ _ _ _ _ hcl (inter ρ ρi) w (evT tmps fo) (c.args.map (evT tmps)) (hop fo hfo) hargs hH
  have hrun : (execOp (evT tmps) o).run P w = .ok nx w := by
    unfold execOp
    rw [hopc]
    simp only [resolve, hcal]
    exact h1
  have hst := st_op_call (fn := fn) (kind := kind) (rnd := rnd) (ds := ds) (k := k) (cs := cs) (is := is) hoi hw hs hrun h2
  obtain ⟨r', w', ρ', q1, q2, q3, q4⟩ := h3 (fat fn kind rnd tmps ds (.inRegion ops (i :: is) :: k)) cs
  cases r' with
  | pan _ => exact q1.elim
  | ret v' =>
    have hfin : (CEnd.ret v').frame (fat fn kind rnd tmps ds (.inRegion ops (i :: is) :: k)) = fat fn kind rnd (putT tmps o.dst v') ds (.inRegion ops is :: k) := by
      simp only [CEnd.frame]
      rw [fat_finish, hoi]; rfl
    have hsteps := Steps.head hst q4
    rw [hfin] at hsteps
    have nr : ∀ b, ρ' b = none → inter ρ ρi b = none := by
      intro b hb
      cases z : inter ρ ρi b with
      | none => rfl
      | some l => rw [q3.ext b l z] at hb; cases hb
    have hj : ∀ b, b < (st i).2.next → inter ρ ρi b = none → (st (i + 1)).2.get b = (st i).2.get b := fun b hlt hr => by
      rw [egt]; exact q3.junk b hlt hr
    refine goes_of s hl0 inv hi hn hp fn kind rnd ds is k cs ho hd (ρs := inter ρ ρi) (ρ' := ρ') (g := { (st i).2 with wm := (st i).2.next }) (g' := h') (fun b l hb => (inter_inv hb).1) hget q3 q2.toH0 q1 rfl enx.symm ?_ ?_ ?_ hsteps
    · intro b l hb
      rw [← egt]
      rcases q3.dom b l hb with z | ⟨z1, z2⟩
      · obtain ⟨hc, hlat⟩ := hat b l z
        have hlt := hH.lt b l z
        have hlt : b < (st i).2.next := hlt
        by_cases hch : Chg st i b
        · exact ((hcont_add hn ops.size).2 hch hi hlat).symm
        · rw [(hcont_add hn ops.size).1 hch, hc]
          have hlt2 : b < (st (i + 1)).2.next := Nat.lt_of_lt_of_le hlt (s.mono1 hi)
          by_cases q : (st (i + 1)).2.get b = (st i).2.get b
          · exact q
          · exact absurd ⟨hlt2, .inr q⟩ hch
      · have h1 : (st i).2.next ≤ b := z1
        have h2 : b < (st (i + 1)).2.next := by rw [enx]; exact z2
        exact (cont_new hi hn (.inr h1) h2 (later_new s hl0 inv hi hn h1 h2)).symm
    · rintro b l hb hb' ⟨c1, c2⟩
      by_cases hlt : b < (st i).2.next
      · exact (c2.resolve_left (by omega)) (hj b hlt (nr b hb'))
      · rw [fresh_of s hl0 inv hi hn (by omega) c1] at hb; cases hb
    · intro b hlt hr
      refine hj b hlt ?_
      cases z : inter ρ ρi b with
      | none => rfl
      | some l => rw [(inter_inv z).1] at hr; cases hr

include s hl0 inv hi hn hp in
theorem goes : Goes P base ops n st vl ρ0 w0 S i tmps w fn kind rnd ds is k cs := by
  have hol : ops.toList[i]? = some ops[i] := by simp [hi]
  have hmem : ops[i] ∈ ops.toList := List.mem_of_getElem? hol
  obtain ⟨hdst, hsv⟩ := s.hops _ hmem
  have hall : ∀ o ∈ ops.toList, ∀ d, o.dst = some d → d < tmps.size := fun o' ho' d hd' => by rw [inv.size]; exact (s.hops o' ho').1 d hd'
  have hlk : ∀ d ∈ looks ops.toList ops[i], VRel ρ ((st i).1.ev d) (tmps.getD d undef) := fun d hd => by
    rw [← slot_of s inv hi hn hp hol hd]; exact inv.frame d
  rcases s.tr.step i _ (Nat.zero_le _) hol with ⟨_, hw, hv, e⟩ | ⟨hex, hw, h', hst, hft, e⟩
  · exact goes_skip s inv hi hn hp fn kind rnd ds is k cs hol (hall _ hmem) (wanted_ok2 hlk hall hw) hv (by rw [e])
  · have hwt := wanted_ok2 hlk hall hw
    unfold astep at hst
    split at hst
    · rename_i v h2 ha
      cases hst
      obtain ⟨f1, f2⟩ := foot_val ha
      exact goes_value s hl0 inv hi hn hp fn kind rnd ds is k cs hol (hall _ hmem) hwt hsv hex ha (by rw [hft]; unfold footOf; rw [f1]; rfl) (by rw [e])
    · rename_i f as ha
      exact goes_call s hl0 inv hi hn hp fn kind rnd ds is k cs hol (hall _ hmem) hwt hsv hex ha hst (by rw [hft, foot_call ha]; rfl) (by rw [e])
    · cases hst

include s hl0 in
theorem sched_ok {l : List Nat} (hs : Sched ops S l) : ∀ {ρ : Emb} {tmps : Array Value} {w : World} {hS : AHeap}, Inv base ops n st vl ρ0 w0 S ρ tmps w hS →
    ∃ ρ2 tmps2 w2 h2, Inv base ops n st vl ρ0 w0 (fun i => i < ops.size) ρ2 tmps2 w2 h2 ∧
      Steps P (lone (fat fn kind rnd tmps ds (.inRegion ops l :: k)) cs w) (lone (fat fn kind rnd tmps2 ds (.inRegion ops [] :: k)) cs w2) := by
  induction hs with
  | nil S h =>
    intro ρ tmps w hS inv
    have : S = (fun i => i < ops.size) := funext fun x => propext ⟨inv.lt x, h x⟩
    subst this
    exact ⟨ρ, tmps, w, hS, inv, .refl _ _⟩
  | cons S i l hi hn hp _ ih =>
    intro ρ tmps w hS inv
    obtain ⟨ρ1, t1, w1, h1, i1, s1⟩ := goes s hl0 inv hi hn hp fn kind rnd ds l k cs
    obtain ⟨ρ2, t2, w2, h2, i2, s2⟩ := ih i1
    exact ⟨ρ2, t2, w2, h2, i2, s1.trans s2⟩

end

theorem draw_ok {T : Tab} {P : Program} {base : Nat} (ok : T.Ok P) : DrawOk T P base := by
  intro call hc hk ops n hops hedge hslots fr h fr' h' hl ρ w ds rnd tmps t pre fn kind k cs
  obtain ⟨st, vl, ft, ex, s0, tr, sN⟩ := adraw_trace ops.toList 0 [] fr h fr' h' (by simp) hl
  simp only [Nat.zero_add, Array.length_toList] at sN
  have e1 : (st 0).1 = fr := by rw [s0]
  have e2 : (st 0).2 = h := by rw [s0]
  have s : Setup T P base call ops n st vl ft ex := ⟨ok, hc, hk, hops, hslots, tr, chain_ok ok hc hops tr pre.size (by rw [e1]; exact pre.frame) (by rw [e2]; exact pre.heap)⟩
  have hf0 : ∀ N t, fcont ops.toList st vl (fun _ => False) N t = fr.ev t := by
    intro N t
    induction N with
    | zero => simp only [fcont]; rw [e1]
    | succ N ih => simp only [fcont]; rw [if_neg (fun q => q.1)]; exact ih
  have hh0 : ∀ N b, hcont st (fun _ => False) N b = h.get b := by
    intro N b
    induction N with
    | zero => simp only [hcont]; rw [e2]
    | succ N ih => simp only [hcont]; rw [if_neg (fun q => q.1)]; exact ih
  have hl0 : ∀ b l, ρ b = some l → b < (st 0).2.next := by rw [e2]; exact pre.heap.lt
  have inv0 : Inv base ops n st vl ρ w (fun _ => False) ρ tmps w h := by
    refine ⟨fun i hi => hi.elim, fun i hi => hi.elim, pre.size, fun t => ?_, fun b l _ => ?_, pre.heap.toH0, ?_, fun b l hb => .inl hb, fun m b hm => hm.elim⟩
    · rw [hf0]; exact pre.frame t
    · rw [hh0]
    · rw [e2]; exact .refl _ _ _
  obtain ⟨ρ2, t2, w2, h2, inv, hsteps⟩ := sched_ok s hl0 fn kind rnd ds k cs (sched_schedule hedge t) inv0
  have ehc : ∀ b l, ρ2 b = some l → h2.get b = (st ops.size).2.get b := by
    intro b l hb
    rw [inv.cont b l hb]
    refine hcont_upto ops.size ?_ (fun m hm => s.mono1 hm) (fun m hm _ => hm)
    rcases inv.dom b l hb with q | ⟨m, hm, q1, q2⟩
    · exact Nat.lt_of_lt_of_le (hl0 b l q) (s.mono (Nat.zero_le _) (Nat.le_refl _))
    · exact Nat.lt_of_lt_of_le q2 (s.mono (by omega) (Nat.le_refl _))
  have efr : ∀ t, fcont ops.toList st vl (fun i => i < ops.size) ops.size t = (st ops.size).1.ev t := fun t => fcont_upto ops.size (fun m hm => s.ev hm) (fun m hm _ => hm)
  have eN1 : (st ops.size).1 = fr' := by rw [sN]
  have eN2 : (st ops.size).2 = h' := by rw [sN]
  have hH : H0 base ρ2 h' w2 := by rw [← eN2]; exact inv.heap.congr (fun b l hb => (ehc b l hb).symm)
  have hC : Core ρ h w ρ2 h' w2 := by
    have := inv.core.congr (g := h) (g' := h') (fun b l _ => by rw [e2]) (fun b l hb => by rw [← eN2]; exact (ehc b l hb).symm)
    exact this
  have hT : Trans ρ h w ρ2 h' w2 := by
    refine ⟨hC.ext, hC.size, hC.frame, hC.own, hC.os, hC.tape, hC.output, hC.loops, ?_, ?_, ?_⟩
    · rw [← e2, ← eN2]; exact s.mono (Nat.zero_le _) (Nat.le_refl _)
    · intro b l hb
      rcases inv.dom b l hb with q | ⟨m, hm, q1, q2⟩
      · exact .inl q
      · right
        rw [← e2, ← eN2]
        have := s.mono (m := 0) (k := m) (Nat.zero_le _) (by omega)
        have := s.mono (m := m + 1) (k := ops.size) (by omega) (Nat.le_refl _)
        omega
    · intro b hb hr
      have hnone : ρ2 b = none := by
        cases z : ρ2 b with
        | none => rfl
        | some l =>
          rcases inv.dom b l z with q | ⟨m, hm, q1, q2⟩
          · rw [hr] at q; cases q
          · have := s.mono (m := 0) (k := m) (Nat.zero_le _) (by omega)
            rw [e2] at this
            omega
      have all : ∀ m, m ≤ ops.size → (st m).2.get b = h.get b := by
        intro m
        induction m with
        | zero => intro _; rw [e2]
        | succ m ih =>
          intro hm
          have hle := s.mono (m := 0) (k := m) (Nat.zero_le _) (by omega)
          rw [e2] at hle
          rw [inv.junk m b (by omega) (by omega) hnone]
          exact ih (by omega)
      rw [← eN2]
      exact all ops.size (Nat.le_refl _)
  refine ⟨t2, w2, ρ2, inv.size, fun t => ?_, hH.toH hT pre.heap, hT, hsteps.trans (.one st_region_end)⟩
  rw [← eN1, ← efr]
  exact inv.frame t

end Go.Ai
