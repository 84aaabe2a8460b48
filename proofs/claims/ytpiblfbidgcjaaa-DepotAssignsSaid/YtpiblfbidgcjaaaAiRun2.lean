/- An abstract interpreter for the model's code: one operation in its frame; a region in the order of the text. -/
import Derived.Test.YtpiblfbidgcjaaaAiRun
namespace Go.Ai

section
variable {T : Tab} {P : Program} (ok : T.Ok P) {base : Nat}

theorem raise_fat {fn : FuncId} {kind : CallKind} {rnd : Option Nat} {tmps : Array Value} {ds : List Deferred} {k : List Item} (v : List PanicEntry) :
    (fat fn kind rnd tmps ds k).raise v = { fat fn kind rnd tmps ds k with mode := .panicking v } := rfl

include ok in
theorem astep_ok {call : Caller} (hc : CallOk P base call) {ρ : Emb} {h : AHeap} {w : World} {fr : AFrame} {tmps : Array Value} {o : Oper} {r : CRes} {h' : AHeap}
    (hf : FRel ρ fr tmps) (hr : HRel base ρ h w) (hl : astep T call fr.op o.op h = some (r, h')) (hs : opServed o.op = true)
    {ops : Array Oper} {i : Nat} (ho : ops[i]? = some o) (hw : Region.wanted o (yielded ops tmps) = true)
    (fn : FuncId) (kind : CallKind) (rnd : Option Nat) (ds : List Deferred) (is : List Nat) (k : List Item) (cs : List Frame) :
    ∃ r' w' ρ', EndRel ρ' r r' ∧ HRel base ρ' h' w' ∧ Trans ρ h w ρ' h' w' ∧ Steps P (lone (fat fn kind rnd tmps ds (.inRegion ops (i :: is) :: k)) cs w) (lone
      (match r' with
        | .ret v' => fat fn kind rnd (putT tmps o.dst v') ds (.inRegion ops is :: k)
        | .pan v' => { fat fn kind rnd tmps ds (.inRegion ops (i :: is) :: k) with mode := .panicking [{ v := v', recovered := false }] }) cs w') := by
  unfold astep at hl
  split at hl
  · rename_i v h2 ha
    cases hl
    obtain ⟨nx, v', w', ρ', h1, h2, h3, h4, h5⟩ := aop_ok ok (o := o) hr.toH0 (fun _ => hr.none_next) (fun x => op_rel hf x) ha
    exact ⟨.ret v', w', ρ', h3, h4.toH h5 hr, h5, .one (st_op_value ho hw hs h1 h2)⟩
  · rename_i f args ha
    obtain ⟨c, fo, hop, hcal, rfl, rfl⟩ := aop_call_inv ha
    obtain ⟨nx, s, h1, h2, h3⟩ := hc _ _ _ _ _ hl ρ w (evT tmps fo) (c.args.map (evT tmps)) (op_rel hf fo) (lrel_map (fun x => op_rel hf x) c.args) hr
    have hrun : (execOp (evT tmps) o).run P w = .ok nx w := by
      unfold execOp
      rw [hop]
      simp only [resolve, hcal]
      exact h1
    have hst := st_op_call (fn := fn) (kind := kind) (rnd := rnd) (ds := ds) (k := k) (cs := cs) (is := is) ho hw hs hrun h2
    obtain ⟨r', w', ρ', h4, h5, h6, h7⟩ := h3 (fat fn kind rnd tmps ds (.inRegion ops (i :: is) :: k)) cs
    refine ⟨r', w', ρ', h4, h5, h6, ?_⟩
    have hall := Steps.head hst h7
    cases r' with
    | ret v' =>
      have e : (CEnd.ret v').frame (fat fn kind rnd tmps ds (.inRegion ops (i :: is) :: k)) = fat fn kind rnd (putT tmps o.dst v') ds (.inRegion ops is :: k) := by
        simp only [CEnd.frame]
        rw [fat_finish, ho]; rfl
      rw [e] at hall
      exact hall
    | pan v' => exact hall
  · cases hl

def opsOk (n : Nat) (ops : Array Oper) : Prop := ∀ o ∈ ops.toList, (∀ d, o.dst = some d → d < n) ∧ opServed o.op = true

theorem opsOk_of {n : Nat} {ops : Array Oper} (h : ops.toList.all (fun o => dstOk n o && opServed o.op) = true) : opsOk n ops := by
  intro o ho
  have := List.all_eq_true.1 h o ho
  simp only [Bool.and_eq_true] at this
  refine ⟨fun d hd => ?_, this.2⟩
  have h1 := this.1
  unfold dstOk at h1
  rw [hd] at h1
  simpa using h1

include ok in
theorem aops_ok {call : Caller} (hc : CallOk P base call) {ops : Array Oper} {n : Nat} (hops : opsOk n ops) :
    ∀ (rest : List Oper) (i : Nat) (fr : AFrame) (h : AHeap) (e : AExit) (fr' : AFrame) (h' : AHeap), ops.toList.drop i = rest → aops T call ops.toList rest fr h = some (e, fr', h') →
      ∀ (ρ : Emb) (w : World) (ds : List Deferred) (rnd : Option Nat) (tmps : Array Value), Pre base ρ h w ds rnd n fr tmps →
        ∀ (fn : FuncId) (kind : CallKind) (k : List Item) (cs : List Frame), ∃ e' tmps' ds' w' ρ', Post base ρ h w ds n e fr' h' e' tmps' ds' w' ρ' ∧ (rnd = none ∨ ds' = []) ∧
          Lands P (lone (fat fn kind rnd tmps ds (.inRegion ops (List.range' i rest.length) :: k)) cs w) fn kind rnd k cs e' tmps' ds' w'
  | [], i, fr, h, e, fr', h', _, hl, ρ, w, ds, rnd, tmps, pre, fn, kind, k, cs => by
    simp only [aops] at hl
    cases hl
    exact ⟨.normal, tmps, ds, w, ρ, ⟨trivial, pre.size, pre.frame, pre.heap, .refl _ _ _, pre.dsok, ⟨[], rfl, by simp⟩, pre.dsnd⟩, pre.norm, Steps.one st_region_end⟩
  | o :: rest, i, fr, h, e, fr', h', hd, hl, ρ, w, ds, rnd, tmps, pre, fn, kind, k, cs => by
    have hi : ops.toList[i]? = some o := by
      have := congrArg (fun l => l[0]?) hd
      simpa [List.getElem?_drop] using this
    have hoi : ops[i]? = some o := by simpa using hi
    have hmem : o ∈ ops.toList := List.mem_of_getElem? hi
    obtain ⟨hdst, hsv⟩ := hops o hmem
    have hd2 : ops.toList.drop (i + 1) = rest := by
      have := congrArg (fun l => l.drop 1) hd
      simpa [List.drop_drop] using this
    have hlt : ∀ o ∈ ops.toList, ∀ d, o.dst = some d → d < tmps.size := fun o' ho' d hd' => by rw [pre.size]; exact (hops o' ho').1 d hd'
    simp only [aops] at hl
    rw [show List.range' i (o :: rest).length = i :: List.range' (i + 1) rest.length from by simp [List.range'_succ]]
    cases hwt : awanted ops.toList fr o.guard with
    | none => rw [hwt] at hl; cases hl
    | some b =>
      have hw := wanted_ok pre.frame hlt hwt
      rw [hwt] at hl
      cases b with
      | false =>
        simp only at hl
        have hst := st_op_skip (P := P) (fn := fn) (kind := kind) (rnd := rnd) (tmps := tmps) (ds := ds) (k := k) (cs := cs) (w := w) (ops := ops) (i := i) (is := List.range' (i + 1) rest.length) (by simp [hoi, hw])
        rw [hoi] at hst
        simp only [Option.bind_some] at hst
        obtain ⟨e', tmps', ds', w', ρ', h1, h2, h3⟩ := aops_ok hc hops rest (i + 1) _ h e fr' h' hd2 hl ρ w ds rnd (putT tmps o.dst undef)
          ⟨by rw [size_putT]; exact pre.size, pre.frame.putDst (fun d hd' => hlt o hmem d hd') (.tuple' (.nil _)), pre.heap, pre.dsok, pre.dsnd, pre.rndok, pre.norm⟩ fn kind k cs
        exact ⟨e', tmps', ds', w', ρ', h1, h2, h3.of_steps (.one hst)⟩
      | true =>
        simp only at hl
        cases hst : astep T call fr.op o.op h with
        | none => rw [hst] at hl; cases hl
        | some rr =>
          obtain ⟨r, h1⟩ := rr
          rw [hst] at hl
          obtain ⟨r', w1, ρ1, hrel, hr1, ht1, hsteps⟩ := astep_ok ok hc pre.frame pre.heap hst hsv hoi hw fn kind rnd ds (List.range' (i + 1) rest.length) k cs
          cases r with
          | ret v =>
            cases r' with
            | pan _ => exact hrel.elim
            | ret v' =>
              simp only at hl
              obtain ⟨e', tmps', ds', w', ρ', q1, q2, q3⟩ := aops_ok hc hops rest (i + 1) _ h1 e fr' h' hd2 hl ρ1 w1 ds rnd (putT tmps o.dst v')
                ⟨by rw [size_putT]; exact pre.size, (pre.frame.mono ht1.ext).putDst (fun d hd' => hlt o hmem d hd') hrel, hr1, pre.dsok.trans pre.heap ht1, pre.dsnd, pre.rndok.trans ht1, pre.norm⟩ fn kind k cs
              refine ⟨e', tmps', ds', w', ρ', ?_, q2, q3.of_steps hsteps⟩
              exact ⟨q1.exit, q1.size, q1.frame, q1.heap, ht1.trans q1.trans, q1.dsok, let ⟨ns, a, b⟩ := q1.dsnew; ⟨ns, a, fun d hd' r hr' => Nat.le_trans ht1.size (b d hd' r hr')⟩, q1.dsnd⟩
          | pan v =>
            cases r' with
            | ret _ => exact hrel.elim
            | pan v' =>
              simp only at hl
              cases hl
              exact ⟨.pan v', tmps, ds, w1, ρ1, ⟨hrel, pre.size, pre.frame.mono ht1.ext, hr1, ht1, pre.dsok.trans pre.heap ht1, ⟨[], rfl, by simp⟩, pre.dsnd⟩, pre.norm, ⟨_, rfl, hsteps⟩⟩

end

end Go.Ai
