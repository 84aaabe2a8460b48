/- An abstract interpreter for the model's code: the interpreter as a whole. -/
import Derived.Test.YtpiblfbidgcjaaaAiRun4
namespace Go.Ai

/- what was not written is as it was -/
def Keeps (h h' : AHeap) : Prop := h.next ≤ h'.next ∧ h'.wm ≤ h.wm ∧ ∀ b, b < h.next → b < h'.wm → h'.get b = h.get b
def CallKeeps (call : Caller) : Prop := ∀ f args h r h', call f args h = some (r, h') → Keeps h h'
def RunKeeps (run : Runner) : Prop := ∀ c fr h e fr' h', run c fr h = some (e, fr', h') → Keeps h h'

section
variable {T : Tab} {P : Program} (ok : T.Ok P) {base : Nat}

/- a region that draws its order -/
def DrawOk (T : Tab) (P : Program) (base : Nat) : Prop :=
  ∀ (call : Caller), CallOk P base call → CallKeeps call → ∀ (ops : Array Oper) (n : Nat), opsOk n ops → edgesOk ops.toList 0 = true → slotsOk ops.toList ops.toList 0 = true →
    ∀ (fr : AFrame) (h : AHeap) (fr' : AFrame) (h' : AHeap), adraw T call ops.toList ops.toList 0 [] fr h = some (fr', h') →
      ∀ (ρ : Emb) (w : World) (ds : List Deferred) (rnd : Option Nat) (tmps : Array Value) (t : Nat), Pre base ρ h w ds rnd n fr tmps →
        ∀ (fn : FuncId) (kind : CallKind) (k : List Item) (cs : List Frame), ∃ tmps' w' ρ', tmps'.size = n ∧ FRel ρ' fr' tmps' ∧ HRel base ρ' h' w' ∧ Trans ρ h w ρ' h' w' ∧
          Steps P (lone (fat fn kind rnd tmps ds (.inRegion ops (Region.schedule true ops t) :: k)) cs w) (lone (fat fn kind rnd tmps' ds k) cs w')

theorem run_enterLoop_none {fn : FuncId} {tmps : Array Value} {params : Array Nat} {assign body : Code} (w : World) :
    (Instr.enterLoop fn tmps params assign body none).run P w = .ok (w.heap.size + 1, [{ target := .collected w.heap.size, args := #[] }])
      { w with heap := (w.heap.push (.deferred (some []))).push (.loop { state := .ready, pending := none, fn, tmps, params, assign, body, defers := w.heap.size }) } := by
  simp only [Instr.enterLoop, Sem.run_bind, run_newObj, Result.andThen_ok, Sem.run_pure, Array.size_push]

theorem run_enterLoop_some {fn : FuncId} {tmps : Array Value} {params : Array Nat} {assign body : Code} (w : World) {l : Nat} {L : Loop} (hg : w.heap[l]? = some (.loop L)) :
    (Instr.enterLoop fn tmps params assign body (some l)).run P w = .ok (w.heap.size, [])
      { w with heap := w.heap.push (.loop { state := .ready, pending := none, fn, tmps, params, assign, body, defers := L.defers }) } := by
  simp only [Instr.enterLoop, Sem.run_bind, run_getLoop hg, Result.andThen_ok, Sem.run_pure, run_newObj]

theorem HRel.grow {ρ : Emb} {h : AHeap} {w w' : World} (hr : HRel base ρ h w) {o : Obj} (hw : w'.heap = w.heap.push o) (h1 : w'.os = w.os) (h2 : w'.tape = w.tape) (h3 : w'.output = w.output) : HRel base ρ h w' ∧ Trans ρ h w ρ h w' := by
  have hold : ∀ k, k < w.heap.size → w'.heap[k]? = w.heap[k]? := fun k hk => by rw [hw, Array.getElem?_push, if_neg (by omega)]
  have hsz : w'.heap.size = w.heap.size + 1 := by rw [hw]; simp
  exact ⟨⟨⟨fun b l hb => by have := hr.clt b l hb; omega, fun b l hb => (hr.blk b l hb).mono (.refl _) (hold _ (hr.clt b l hb)), hr.inj, by have := hr.base; omega⟩, hr.lt⟩,
    .same (by omega) (fun k hk _ => hold k hk) h1 h2 h3⟩

theorem st_rangeFunc {fn : FuncId} {kind : CallKind} {rnd : Option Nat} {tmps : Array Value} {ds mark : List Deferred} {k : List Item} {cs : List Frame} {w w1 : World} {f : Operand} {params : Array Nat} {assign body : Code} {l : Nat} {nx : Next} {s : Frame}
    (he : (Instr.enterLoop fn tmps params assign body rnd).run P w = .ok (l, mark) w1)
    (hr : (do let d ← Deferred.ofValue (evT tmps f) #[.func (.yield l) #[] #[]]; invoke d.target d.args : Sem Next).run P w1 = .ok nx w1) (hs : startOf P nx = some s) :
    step P (lone (fat fn kind rnd tmps ds (.code (.rangeFunc f params assign body) :: k)) cs w) = .next (lone s (fat fn kind rnd tmps (mark ++ ds) (.inRangeFunc l :: k) :: cs) w1) := by
  have hev : (fat fn kind rnd tmps (mark ++ ds) (.inRangeFunc l :: k)).eval = evT tmps := fat_eval ..
  have hres : (do let d ← resolve (evT tmps) { callee := .value f, args := #[.const (.func (.yield l) #[] #[])], argTypes := #[] } 0; invoke d.target d.args : Sem Next).run P w1 = .ok nx w1 := by
    simpa [resolve, evT] using hr
  refine step_lone_go ?_
  simp only [fat] at hev
  simp only [stepG, stepG.exec, fat, Sem.runT_eq, he, hev]
  cases nx <;> simp [startOf] at hs <;> subst hs <;> simp [stepG.apply, hres]

theorem run_endLoop {w : World} {l : Nat} {L : Loop} (hg : w.heap[l]? = some (.loop L)) (hb : L.state ≠ .busy) :
    (Instr.endLoop l).run P w = .ok L.pending { w with heap := w.heap.setIfInBounds l (.loop { L with state := .exhausted }) } := by
  have hb' : (L.state == .busy) = false := by simpa using hb
  simp only [Instr.endLoop, Sem.run_bind, run_getLoop hg, Result.andThen_ok, hb', Bool.false_eq_true, if_false, Sem.run_pure, run_setLoop hg]

theorem st_endRange {fn : FuncId} {kind : CallKind} {rnd : Option Nat} {tmps : Array Value} {ds : List Deferred} {k : List Item} {cs : List Frame} {w : World} {l : Nat} {L : Loop} (hg : w.heap[l]? = some (.loop L)) (hb : L.state ≠ .busy) :
    step P (lone (fat fn kind rnd tmps ds (.endRangeFunc l :: k)) cs w) = .next (lone (fat fn kind rnd tmps ds ((L.pending.map Item.code).toList ++ k)) cs { w with heap := w.heap.setIfInBounds l (.loop { L with state := .exhausted }) }) := by
  have h := run_endLoop (P := P) hg hb
  refine step_lone_go ?_
  simp [stepG, stepG.exec, fat, Sem.runT_eq, h]

include ok in
theorem aexec_ok (hdraw : DrawOk T P base) (hkeep : ∀ n, RunKeeps (aexec T n)) (hck : ∀ run, RunKeeps run → CallKeeps (acall T run)) : ∀ n, RunOk P base (aexec T n)
  | 0 => by intro c fr h e fr' h' hl; simp [aexec] at hl
  | m + 1 => by
    have ih := aexec_ok hdraw hkeep hck m
    have hcall := acall_ok ok ih
    intro c fr h e fr' h' hl n hco ρ w ds rnd tmps pre fn kind k cs x hx
    have hxc : (∀ c', c ≠ .loop c') → x = .code c := fun hn => hx.resolve_right (fun ⟨c', e, _⟩ => hn c' e)
    cases c with
    | skip =>
      have hx' := hxc (fun _ q => by cases q); subst hx'
      simp only [aexec] at hl; cases hl
      exact ⟨.normal, tmps, ds, w, ρ, ⟨trivial, pre.size, pre.frame, pre.heap, .refl _ _ _, pre.dsok, ⟨[], rfl, by simp⟩, pre.dsnd⟩, pre.norm, Steps.one st_skip⟩
    | label l =>
      have hx' := hxc (fun _ q => by cases q); subst hx'
      simp only [aexec] at hl; cases hl
      exact ⟨.normal, tmps, ds, w, ρ, ⟨trivial, pre.size, pre.frame, pre.heap, .refl _ _ _, pre.dsok, ⟨[], rfl, by simp⟩, pre.dsnd⟩, pre.norm, Steps.one st_label⟩
    | exit id =>
      have hx' := hxc (fun _ q => by cases q); subst hx'
      simp only [aexec] at hl; cases hl
      exact ⟨.exit id, tmps, ds, w, ρ, ⟨rfl, pre.size, pre.frame, pre.heap, .refl _ _ _, pre.dsok, ⟨[], rfl, by simp⟩, pre.dsnd⟩, pre.norm, ⟨k, rfl, .refl _ _⟩⟩
    | goto l =>
      have hx' := hxc (fun _ q => by cases q); subst hx'
      simp only [aexec] at hl; cases hl
      exact ⟨.goto l, tmps, ds, w, ρ, ⟨rfl, pre.size, pre.frame, pre.heap, .refl _ _ _, pre.dsok, ⟨[], rfl, by simp⟩, pre.dsnd⟩, pre.norm, ⟨k, rfl, .refl _ _⟩⟩
    | ret =>
      have hx' := hxc (fun _ q => by cases q); subst hx'
      simp only [aexec] at hl; cases hl
      exact ⟨.ret, tmps, ds, w, ρ, ⟨trivial, pre.size, pre.frame, pre.heap, .refl _ _ _, pre.dsok, ⟨[], rfl, by simp⟩, pre.dsnd⟩, pre.norm, ⟨k, .refl _ _⟩⟩
    | refuse s => simp [aexec] at hl
    | region id ops draw =>
      have hx' := hxc (fun _ q => by cases q); subst hx'
      simp only [codeOk, Bool.and_eq_true] at hco
      have hops := opsOk_of hco.1
      simp only [aexec] at hl
      cases draw with
      | false =>
        simp only [Bool.false_eq_true, if_false] at hl
        obtain ⟨e', tmps', ds', w', ρ', h1, h2, h3⟩ := aops_ok ok hcall hops ops.toList 0 fr h e fr' h' rfl hl ρ w ds rnd tmps pre fn kind k cs
        refine ⟨e', tmps', ds', w', ρ', h1, h2, Lands.of_steps (.one st_region) ?_⟩
        rw [List.range_eq_range']
        have : ops.size = ops.toList.length := by simp
        rw [this]
        exact h3
      | true =>
        simp only [if_true] at hl
        have h2 := hco.2
        simp only [Bool.not_true, Bool.false_or, Bool.and_eq_true] at h2
        split at hl
        case h_2 => cases hl
        rename_i fr2 h2' had
        cases hl
        have hpre : Pre base ρ h { w with drawn := w.drawn + 1 } ds rnd n fr tmps := ⟨pre.size, pre.frame, pre.heap.heap rfl, pre.dsok, pre.dsnd, pre.rndok, pre.norm⟩
        obtain ⟨tmps', w', ρ', q1, q2, q3, q4, q5⟩ := hdraw _ hcall (hck _ (hkeep m)) ops n hops h2.1 h2.2 fr h fr' h' had ρ { w with drawn := w.drawn + 1 } ds rnd tmps (w.tape w.drawn (.order fn id)) hpre fn kind k cs
        have tr0 : Trans ρ h w ρ h { w with drawn := w.drawn + 1 } := .heap rfl rfl rfl rfl
        have tr := tr0.trans q4
        refine ⟨.normal, tmps', ds, w', ρ', ⟨trivial, q1, q2, q3, tr, pre.dsok.trans pre.heap tr, ⟨[], rfl, by simp⟩, pre.dsnd⟩, pre.norm, ?_⟩
        have hst := st_draw (P := P) (fn := fn) (kind := kind) (rnd := rnd) (tmps := tmps) (ds := ds) (k := k) (cs := cs) (w := w) (id := id) (ops := ops)
        rw [ok.mixed] at hst
        exact Steps.head hst q5
    | seq a b =>
      have hx' := hxc (fun _ q => by cases q); subst hx'
      simp only [codeOk, Bool.and_eq_true] at hco
      simp only [aexec] at hl
      cases h1 : aexec T m a fr h with
      | none => rw [h1] at hl; simp at hl
      | some out =>
        obtain ⟨e1, fr1, ha1⟩ := out
        rw [h1] at hl
        obtain ⟨e', tmps1, ds1, w1, ρ1, p1, n1, l1⟩ := ih _ _ _ _ _ _ h1 n hco.1 ρ w ds rnd tmps pre fn kind (.code b :: k) cs _ (.inl rfl)
        have hex := p1.exit
        by_cases he : e1 = .normal
        · subst he
          cases e' <;> try exact hex.elim
          simp only at hl
          obtain ⟨e'', tmps2, ds2, w2, ρ2, p2, n2, l2⟩ := ih _ _ _ _ _ _ hl n hco.2 ρ1 w1 ds1 rnd tmps1 (pre.post p1 n1) fn kind k cs _ (.inl rfl)
          exact ⟨e'', tmps2, ds2, w2, ρ2, p1.andThen p2, n2, Lands.of_steps (.head st_seq l1) l2⟩
        · have hl' : some (e1, fr1, ha1) = some (e, fr', h') := by
            cases e1 <;> first | (exact absurd rfl he) | exact hl
          cases hl'
          have hne : e' ≠ .normal := by
            rintro rfl
            cases e <;> first | exact he rfl | exact hex
          exact ⟨e', tmps1, ds1, w1, ρ1, p1, n1, Lands.of_steps (.one st_seq) (.pass (x := .code b) rfl hne l1)⟩
    | cond c a b =>
      have hx' := hxc (fun _ q => by cases q); subst hx'
      simp only [codeOk, Bool.and_eq_true] at hco
      simp only [aexec] at hl
      split at hl
      case h_2 => cases hl
      rename_i t ht
      have hv := op_rel pre.frame c
      rw [ht] at hv
      generalize hcc : evT tmps c = cc at hv
      cases hv
      obtain ⟨e', tmps1, ds1, w1, ρ1, p1, n1, l1⟩ := ih _ _ _ _ _ _ hl n (by cases t <;> simp [hco]) ρ w ds rnd tmps pre fn kind k cs _ (.inl rfl)
      exact ⟨e', tmps1, ds1, w1, ρ1, p1, n1, Lands.of_steps (.one (st_cond hcc)) l1⟩
    | block id c =>
      have hx' := hxc (fun _ q => by cases q); subst hx'
      simp only [codeOk] at hco
      simp only [aexec] at hl
      cases h1 : aexec T m c fr h with
      | none => rw [h1] at hl; simp at hl
      | some out =>
        obtain ⟨e1, fr1, ha1⟩ := out
        rw [h1] at hl
        obtain ⟨e', tmps1, ds1, w1, ρ1, p1, n1, l1⟩ := ih _ _ _ _ _ _ h1 n hco ρ w ds rnd tmps pre fn kind (.inBlock id :: k) cs _ (.inl rfl)
        have hex := p1.exit
        have hpst := fun (q : ERel ρ1 .normal .normal) => (⟨q, p1.size, p1.frame, p1.heap, p1.trans, p1.dsok, p1.dsnew, p1.dsnd⟩ : Post base ρ h w ds n .normal fr1 ha1 .normal tmps1 ds1 w1 ρ1)
        cases e1 with
        | normal =>
          cases e' <;> try exact hex.elim
          simp only at hl; cases hl
          exact ⟨.normal, tmps1, ds1, w1, ρ1, p1, n1, Steps.head st_block (Steps.trans l1 (.one st_inBlock))⟩
        | exit id1 =>
          cases e' <;> try exact hex.elim
          rename_i id2
          have hid : id1 = id2 := hex
          subst hid
          obtain ⟨k2, hk2, hst⟩ := l1
          simp only at hl
          split at hl
          · rename_i hid; subst hid
            cases hl
            refine ⟨.normal, tmps1, ds1, w1, ρ1, hpst trivial, n1, ?_⟩
            exact Steps.head st_block (Steps.trans hst (.one (st_exit (by rw [hk2]; simp [exitTo]))))
          · rename_i hid
            cases hl
            refine ⟨.exit id1, tmps1, ds1, w1, ρ1, p1, n1, ⟨k2, ?_, Steps.head st_block hst⟩⟩
            rw [hk2]
            have : (id == id1) = false := by simp; exact fun q => hid q.symm
            simp [exitTo, this]
        | goto l =>
          cases e' <;> try exact hex.elim
          simp only at hl; cases hl
          obtain ⟨k2, hk2, hst⟩ := l1
          exact ⟨_, tmps1, ds1, w1, ρ1, p1, n1, ⟨k2, by rw [hk2]; simp [gotoIn], Steps.head st_block hst⟩⟩
        | ret =>
          cases e' <;> try exact hex.elim
          simp only at hl; cases hl
          obtain ⟨k2, hst⟩ := l1
          exact ⟨_, tmps1, ds1, w1, ρ1, p1, n1, ⟨k2, Steps.head st_block hst⟩⟩
        | pan v =>
          cases e' <;> try exact hex.elim
          simp only at hl; cases hl
          obtain ⟨k2, a, hst⟩ := l1
          exact ⟨_, tmps1, ds1, w1, ρ1, p1, n1, ⟨k2, a, Steps.head st_block hst⟩⟩
    | scope c =>
      have hx' := hxc (fun _ q => by cases q); subst hx'
      simp only [codeOk] at hco
      simp only [aexec] at hl
      cases h1 : aexec T m c fr h with
      | none => rw [h1] at hl; simp at hl
      | some out =>
        obtain ⟨e1, fr1, ha1⟩ := out
        rw [h1] at hl
        obtain ⟨e', tmps1, ds1, w1, ρ1, p1, n1, l1⟩ := ih _ _ _ _ _ _ h1 n hco ρ w ds rnd tmps pre fn kind (.inScope c :: k) cs _ (.inl rfl)
        have hex := p1.exit
        cases e1 with
        | normal =>
          cases e' <;> try exact hex.elim
          simp only at hl; cases hl
          exact ⟨.normal, tmps1, ds1, w1, ρ1, p1, n1, Steps.head st_scope (Steps.trans l1 (.one st_inScope))⟩
        | exit id1 =>
          cases e' <;> try exact hex.elim
          simp only at hl; cases hl
          obtain ⟨k2, hk2, hst⟩ := l1
          exact ⟨_, tmps1, ds1, w1, ρ1, p1, n1, ⟨k2, by rw [hk2]; simp [exitTo], Steps.head st_scope hst⟩⟩
        | goto l => simp at hl
        | ret =>
          cases e' <;> try exact hex.elim
          simp only at hl; cases hl
          obtain ⟨k2, hst⟩ := l1
          exact ⟨_, tmps1, ds1, w1, ρ1, p1, n1, ⟨k2, Steps.head st_scope hst⟩⟩
        | pan v =>
          cases e' <;> try exact hex.elim
          simp only at hl; cases hl
          obtain ⟨k2, a, hst⟩ := l1
          exact ⟨_, tmps1, ds1, w1, ρ1, p1, n1, ⟨k2, a, Steps.head st_scope hst⟩⟩
    | loop c =>
      have hst0 : step P (lone (fat fn kind rnd tmps ds (x :: k)) cs w) = .next (lone (fat fn kind rnd tmps ds (.code c :: .inLoop c :: k)) cs w) := by
        rcases hx with rfl | ⟨c', e, rfl⟩
        · exact st_loop
        · cases e; exact st_inLoop
      simp only [codeOk] at hco
      simp only [aexec] at hl
      cases h1 : aexec T m c fr h with
      | none => rw [h1] at hl; simp at hl
      | some out =>
        obtain ⟨e1, fr1, ha1⟩ := out
        rw [h1] at hl
        obtain ⟨e', tmps1, ds1, w1, ρ1, p1, n1, l1⟩ := ih _ _ _ _ _ _ h1 n hco ρ w ds rnd tmps pre fn kind (.inLoop c :: k) cs _ (.inl rfl)
        have hex := p1.exit
        by_cases he : e1 = .normal
        · subst he
          cases e' <;> try exact hex.elim
          simp only at hl
          obtain ⟨e'', tmps2, ds2, w2, ρ2, p2, n2, l2⟩ := ih _ _ _ _ _ _ hl n (by simpa [codeOk] using hco) ρ1 w1 ds1 rnd tmps1 (pre.post p1 n1) fn kind k cs _ (.inr ⟨c, rfl, rfl⟩)
          exact ⟨e'', tmps2, ds2, w2, ρ2, p1.andThen p2, n2, Lands.of_steps (.head hst0 l1) l2⟩
        · have hl' : some (e1, fr1, ha1) = some (e, fr', h') := by
            cases e1 <;> first | (exact absurd rfl he) | exact hl
          cases hl'
          have hne : e' ≠ .normal := by
            rintro rfl
            cases e <;> first | exact he rfl | exact hex
          exact ⟨e', tmps1, ds1, w1, ρ1, p1, n1, Lands.of_steps (.one hst0) (.pass (x := .inLoop c) rfl hne l1)⟩
    | rangeFunc f params assign body =>
      have hx' := hxc (fun _ q => by cases q); subst hx'
      simp only [codeOk, Bool.and_eq_true] at hco
      simp only [aexec] at hl
      -- the loop is laid
      have enter : ∃ l mark w1, (Instr.enterLoop fn tmps params assign body rnd).run P w = .ok (l, mark) w1 ∧ HRel base (ρ.add h.next ⟨l, 0, 0⟩) (h.push (.loop { state := .ready, pending := none, fr, params := params.toList, assign, body })) w1 ∧
          Trans ρ h w (ρ.add h.next ⟨l, 0, 0⟩) (h.push (.loop { state := .ready, pending := none, fr, params := params.toList, assign, body })) w1 ∧ DsOk (mark ++ ds) w1 ∧ DsNodup (mark ++ ds) ∧
          (∀ d ∈ mark, ∀ r, d = { target := .collected r, args := #[] } → w.heap.size ≤ r) ∧ (rnd = none ∨ mark ++ ds = []) := by
        have lay : ∀ (w0 : World) (dn : Nat), HRel base ρ h w0 → Trans ρ h w ρ h w0 → ∀ w1 : World, w1.heap = w0.heap.push (.loop { state := .ready, pending := none, fn, tmps, params, assign, body, defers := dn }) → w1.os = w0.os → w1.tape = w0.tape → w1.output = w0.output →
            HRel base (ρ.add h.next ⟨w0.heap.size, 0, 0⟩) (h.push (.loop { state := .ready, pending := none, fr, params := params.toList, assign, body })) w1 ∧
            Trans ρ h w (ρ.add h.next ⟨w0.heap.size, 0, 0⟩) (h.push (.loop { state := .ready, pending := none, fr, params := params.toList, assign, body })) w1 := by
          intro w0 dn hr0 ht0 w1 hw1 q1 q2 q3
          obtain ⟨a, b⟩ := push_rel hr0.toH0 hr0.none_next (.loop { state := .ready, pending := none, fr, params := params.toList, assign, body }) _ w1 0 hw1 q1 q2 q3
            ⟨hr0.base, { state := .ready, pending := none, fn, tmps, params, assign, body, defers := dn }, by rw [hw1]; simp, ⟨rfl, fun _ => rfl, rfl, rfl, rfl, pre.frame.mono (.add pre.heap.none_next), fun p hp => by
              show p < tmps.size
              rw [pre.size]
              have := List.all_eq_true.1 hco.1.1 p hp
              simpa using this, by show codeOk tmps.size assign = true; rw [pre.size]; exact hco.1.2, by show codeOk tmps.size body = true; rw [pre.size]; exact hco.2⟩⟩
          exact ⟨a.toH b hr0, ht0.trans b⟩
        cases hrnd : rnd with
        | none =>
          let w0 : World := { w with heap := w.heap.push (.deferred (some [])) }
          obtain ⟨g1, g2⟩ := pre.heap.grow (w' := w0) rfl rfl rfl rfl
          have hz : w0.heap.size = w.heap.size + 1 := by simp [w0]
          obtain ⟨a, b⟩ := lay w0 w.heap.size g1 g2 { w with heap := (w.heap.push (.deferred (some []))).push (.loop { state := .ready, pending := none, fn, tmps, params, assign, body, defers := w.heap.size }) } rfl rfl rfl rfl
          rw [hz] at a b
          refine ⟨w.heap.size + 1, _, _, run_enterLoop_none w, a, b, ?_, ?_, ?_, .inl rfl⟩
          · intro d hd
            rcases List.mem_append.1 hd with hd | hd
            · simp at hd; subst hd
              exact ⟨w.heap.size, rfl, by simp [Array.getElem?_push]⟩
            · obtain ⟨r, e1, e2⟩ := pre.dsok d hd
              refine ⟨r, e1, ?_⟩
              have hlt : r < w.heap.size := (Array.getElem?_eq_some_iff.1 e2).1
              simp only [Array.getElem?_push, Array.size_push]
              rw [if_neg (by omega), if_neg (by omega)]
              exact e2
          · refine List.pairwise_append.2 ⟨by simp, pre.dsnd, fun d hd d' hd' => ?_⟩
            simp at hd; subst hd
            rintro rfl
            obtain ⟨r, e1, e2⟩ := pre.dsok _ hd'
            simp at e1
            subst e1
            have hlt := (Array.getElem?_eq_some_iff.1 e2).1
            omega
          · intro d hd r hr
            simp at hd; subst hd
            simp at hr
            omega
        | some l0 =>
          obtain ⟨la, loc, L, r1, r2, r3⟩ := pre.rndok l0 hrnd
          obtain ⟨_, L', r4, _⟩ := loop_at pre.heap r1 r3
          subst r2
          have hds : ds = [] := pre.norm.resolve_left (by rw [hrnd]; simp)
          subst hds
          obtain ⟨a, b⟩ := lay w L'.defers pre.heap (.refl _ _ _) { w with heap := w.heap.push (.loop { state := .ready, pending := none, fn, tmps, params, assign, body, defers := L'.defers }) } rfl rfl rfl rfl
          exact ⟨w.heap.size, [], _, run_enterLoop_some w r4, a, b, (fun d hd => by cases hd), .nil, (fun d hd => by cases hd), .inr rfl⟩
      obtain ⟨l, mark, w1, hrun, hr1, ht1, hd1, hn1, hm1, hnorm⟩ := enter
      cases hca : acall T (aexec T m) (fr.op f) [.func (.yield h.next) [] []] (h.push (.loop { state := .ready, pending := none, fr, params := params.toList, assign, body })) with
      | none => rw [hca] at hl; simp at hl
      | some out =>
        obtain ⟨r, ha2⟩ := out
        rw [hca] at hl
        have hargs : LRel (ρ.add h.next ⟨l, 0, 0⟩) [.func (.yield h.next) [] []] (#[Value.func (.yield l) #[] #[]] : Array Value).toList :=
          .cons (.func _ _ [] [] #[] #[] (.inl ⟨h.next, l, rfl, rfl, ⟨l, 0, 0⟩, Emb.add_same _ _ _, rfl⟩) rfl rfl (by simp) (by simp)) (.nil _)
        obtain ⟨nx, s, q1, q2, q3⟩ := hcall _ _ _ _ _ hca _ w1 (evT tmps f) _ ((op_rel pre.frame f).mono ht1.ext) hargs hr1
        obtain ⟨r', w2, ρ2, q4, q5, q6, q7⟩ := q3 (fat fn kind rnd tmps (mark ++ ds) (.inRangeFunc l :: k)) cs
        have hst := st_rangeFunc (ds := ds) (k := k) (cs := cs) (kind := kind) hrun q1 q2
        have hall := Steps.head hst q7
        have tr2 := ht1.trans q6
        have hd2 : DsOk (mark ++ ds) w2 := hd1.trans hr1 q6
        cases r with
        | pan v =>
          simp only at hl
          cases hl
          cases r' with
          | ret _ => exact q4.elim
          | pan v' =>
            exact ⟨.pan v', tmps, mark ++ ds, w2, ρ2, ⟨q4, pre.size, pre.frame.mono tr2.ext, q5, tr2, hd2, ⟨mark, rfl, hm1⟩, hn1⟩, hnorm, ⟨.inRangeFunc l :: k, rfl, hall⟩⟩
        | ret v =>
          cases r' with
          | pan _ => exact q4.elim
          | ret v' =>
            simp only at hl
            split at hl
            case h_2 => cases hl
            rename_i L2 hg2
            split at hl
            · cases hl
            rename_i hbusy
            have hb2 : ρ2 h.next = some ⟨l, 0, 0⟩ := q6.ext _ _ (Emb.add_same _ _ _)
            obtain ⟨hbase2, L2', hg2', hL2⟩ := loop_at q5 hb2 hg2
            have hbusy' : L2'.state ≠ .busy := by rw [hL2.state]; exact hbusy
            have hLe : LoopRel ρ2 { L2 with state := .exhausted } { L2' with state := .exhausted } := ⟨rfl, fun _ => hL2.pending hbusy, hL2.params, hL2.assign, hL2.body, hL2.frame, hL2.okP, hL2.okA, hL2.okB⟩
            obtain ⟨hr3, ht3⟩ := loop_set q5 hb2 hg2 (L := { L2 with state := .exhausted }) ⟨rfl, rfl, rfl, rfl⟩ hLe
            have hfin : (CEnd.ret v').frame (fat fn kind rnd tmps (mark ++ ds) (.inRangeFunc l :: k)) = fat fn kind rnd tmps (mark ++ ds) (.endRangeFunc l :: k) := by simp only [CEnd.frame]; rfl
            rw [hfin] at hall
            have hst3 := st_endRange (P := P) (fn := fn) (kind := kind) (rnd := rnd) (tmps := tmps) (ds := mark ++ ds) (k := k) (cs := cs) hg2' hbusy'
            obtain ⟨w3, hw3⟩ : ∃ w3 : World, w3 = { w2 with heap := w2.heap.setIfInBounds l (.loop { L2' with state := .exhausted }) } := ⟨_, rfl⟩
            have hall3 : Steps P (lone (fat fn kind rnd tmps ds (.code (.rangeFunc f params assign body) :: k)) cs w) (lone (fat fn kind rnd tmps (mark ++ ds) ((L2'.pending.map Item.code).toList ++ k)) cs w3) := by
              rw [hw3]; exact hall.trans (.one hst3)
            have tr3 := tr2.trans ht3
            have hpost : ∀ (e : AExit) (e' : CExit), ERel ρ2 e e' → Post base ρ h w ds n e fr (ha2.set h.next (.loop { L2 with state := .exhausted })) e' tmps (mark ++ ds) w3 ρ2 := by
              rw [hw3]
              exact fun e e' he => ⟨he, pre.size, pre.frame.mono tr3.ext, hr3, tr3, hd2.trans q5 ht3, ⟨mark, rfl, hm1⟩, hn1⟩
            have hpend := hL2.pending hbusy
            split at hl
            · rename_i hp
              cases hl
              rw [hpend, hp] at hall3
              exact ⟨.normal, tmps, _, _, ρ2, hpost .normal .normal trivial, hnorm, hall3⟩
            · rename_i hp
              cases hl
              rw [hpend, hp] at hall3
              exact ⟨.ret, tmps, _, _, ρ2, hpost .ret .ret trivial, hnorm, ⟨k, hall3⟩⟩
            · rename_i id hp
              cases hl
              rw [hpend, hp] at hall3
              exact ⟨.exit id, tmps, _, _, ρ2, hpost (.exit id) (.exit id) rfl, hnorm, ⟨k, rfl, hall3⟩⟩
            · cases hl

end

end Go.Ai
