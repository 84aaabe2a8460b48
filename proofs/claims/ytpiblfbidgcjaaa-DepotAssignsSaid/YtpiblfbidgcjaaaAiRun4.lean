/- An abstract interpreter for the model's code: a call of a function value, be it a function or the body of a range over a function. -/
import Derived.Test.YtpiblfbidgcjaaaAiRun3
namespace Go.Ai

section
variable {T : Tab} {P : Program} (ok : T.Ok P) {base : Nat}

theorem run_callFunc {g : FuncId} {F : Func} (hF : P.funcs[g]? = some F) (hn : (F.name == "runtime.NumGoroutine") = false) (hb : F.body.isSome = true) (args : Array Value) (w : World) :
    (callFunc g args).run P w = .ok (.enter g args) w := by
  have hb' : F.body.isNone = false := by
    cases h : F.body with
    | none => rw [h] at hb; cases hb
    | some _ => rfl
  simp only [callFunc, Sem.run_bind, run_program, Result.andThen_ok, hF, hn, Bool.false_eq_true, if_false, hb', Sem.run_pure]

include ok in
theorem fnCall_ok {run : Runner} (hrun : RunOk P base run) {g : FuncId} {args : List AVal} {h : AHeap} {r : CRes} {h' : AHeap} (hl : acallFn T run g args h = some (r, h')) {ρ : Emb} {w : World} {args' : Array Value}
    (ha : LRel ρ args args'.toList) (hr : HRel base ρ h w) (c : Frame) (cs : List Frame) :
    ∃ r' w' ρ', EndRel ρ' r r' ∧ HRel base ρ' h' w' ∧ Trans ρ h w ρ' h' w' ∧ Steps P (lone (Frame.enter P g args' .normal) (c :: cs) w) (lone (r'.frame c) cs w') := by
  obtain ⟨_, hcalls⟩ := fn_ok ok hrun hl ha hr
  obtain ⟨e, w', fr, ⟨ρ', h1, h2, h3⟩, hcomes, hfn, hleave⟩ := hcalls (c :: cs)
  rcases h3 with ⟨v, v', rfl, rfl, hv⟩ | ⟨v, v', rfl, rfl, hv⟩
  · exact ⟨.ret v', w', ρ', hv, h1, h2, Steps.trans hcomes (.one (step_leave_returned hleave))⟩
  · exact ⟨.pan v', w', ρ', hv, h1, h2, Steps.trans hcomes (.one (step_leave_panicked hleave))⟩

theorem loop_at {ρ : Emb} {h : AHeap} {w : World} (hr : HRel base ρ h w) {b : Nat} {l : Loc} {L : ALoop} (hb : ρ b = some l) (hg : h.get b = some (.loop L)) : base ≤ l.c ∧ ∃ L', w.heap[l.c]? = some (.loop L') ∧ LoopRel ρ L L' := by
  have hblk := hr.blk b l hb
  rw [hg] at hblk
  exact hblk

/- a loop's state is written -/
theorem loop_set {ρ : Emb} {h : AHeap} {w : World} (hr : HRel base ρ h w) {b : Nat} {l : Loc} {L0 L : ALoop} {L' : Loop} (hb : ρ b = some l) (hg : h.get b = some (.loop L0)) (hs : LSame L0 L) (hL : LoopRel ρ L L') :
    HRel base ρ (h.set b (.loop L)) { w with heap := w.heap.setIfInBounds l.c (.loop L') } ∧ Trans ρ h w ρ (h.set b (.loop L)) { w with heap := w.heap.setIfInBounds l.c (.loop L') } := by
  have hlt := hr.clt b l hb
  obtain ⟨hbase, _⟩ := loop_at hr hb hg
  have hh := set_rel hr.toH0 hb (by unfold Owns; rw [hg]; trivial) (.loop L) { w with heap := w.heap.setIfInBounds l.c (.loop L') } (by simp) (fun k hk => by simp [Array.getElem?_setIfInBounds, Ne.symm hk]) rfl rfl rfl
    ⟨hbase, L', by simp [Array.getElem?_setIfInBounds, hlt], hL⟩ (fun L1 h1 => ⟨L, rfl, by rw [hg] at h1; cases h1; exact hs⟩)
  exact ⟨hh.1.toH hh.2 hr, hh.2⟩

theorem putParams_rel {ρ : Emb} : ∀ (ps : List Nat) (vs : List AVal) (vs' : List Value) (fr : AFrame) (tmps : Array Value), LRel ρ vs vs' → (∀ p ∈ ps, p < tmps.size) → FRel ρ fr tmps →
    FRel ρ (putParams ps vs fr) ((ps.zip vs').foldl (fun tmps (x : Nat × Value) => tmps.setIfInBounds x.1 x.2) tmps) ∧ ((ps.zip vs').foldl (fun tmps (x : Nat × Value) => tmps.setIfInBounds x.1 x.2) tmps).size = tmps.size
  | [], vs, vs', fr, tmps, _, _, hf => by cases vs <;> cases vs' <;> exact ⟨hf, rfl⟩
  | p :: ps, [], vs', fr, tmps, hv, _, hf => by rw [hv.nil_inv]; exact ⟨hf, rfl⟩
  | p :: ps, v :: vs, vs', fr, tmps, hv, hp, hf => by
    obtain ⟨v', us', rfl, h1, h2⟩ := hv.cons_inv
    have := putParams_rel ps vs us' (Tr.set fr p v) (tmps.setIfInBounds p v') h2 (fun q hq => by simpa using hp q (List.mem_cons_of_mem _ hq)) (hf.put (hp p (List.mem_cons_self ..)) h1)
    simp only [putParams, List.zip_cons_cons, List.foldl_cons]
    exact ⟨this.1, by rw [this.2]; simp⟩

theorem run_getLoop {w : World} {l : Nat} {L : Loop} (hg : w.heap[l]? = some (.loop L)) : (Instr.getLoop l).run P w = .ok L w := by
  simp [Instr.getLoop, getObj, Sem.run, hg]

theorem run_setLoop {w : World} {l : Nat} {L L2 : Loop} (hg : w.heap[l]? = some (.loop L)) : (setObj l (.loop L2)).run P w = .ok () { w with heap := w.heap.setIfInBounds l (.loop L2) } := by
  simp [setObj, Sem.run, hg]

theorem run_endRound {w : World} {l : Nat} {L : Loop} (hg : w.heap[l]? = some (.loop L)) (jump : Option Code) :
    (Instr.endRound l jump).run P w = .ok (.bool jump.isNone) { w with heap := w.heap.setIfInBounds l (.loop { L with state := if jump.isNone then .ready else .done, pending := jump }) } := by
  simp only [Instr.endRound, Sem.run_bind, run_getLoop hg, Result.andThen_ok, run_setLoop hg, Sem.run_pure]

theorem st_leave {fn : FuncId} {l : Nat} {tmps : Array Value} {todo : List Item} {c : Frame} {cs : List Frame} {w : World} {L : Loop} {jump : Option Code} (hg : w.heap[l]? = some (.loop L))
    (hj : (todo = [] ∧ jump = none) ∨ (∃ k, todo = .code .ret :: k ∧ jump = some .ret) ∨ (∃ id k, todo = .code (.exit id) :: k ∧ exitTo id k = none ∧ jump = some (.exit id))) :
    step P (lone (fat fn .normal (some l) tmps [] todo) (c :: cs) w) = .next (lone (c.finish (.bool jump.isNone)) cs { w with heap := w.heap.setIfInBounds l (.loop { L with state := if jump.isNone then .ready else .done, pending := jump }) }) := by
  have hend := run_endRound (P := P) hg jump
  refine step_lone_go ?_
  rcases hj with ⟨rfl, rfl⟩ | ⟨k, rfl, rfl⟩ | ⟨id, k, rfl, he, rfl⟩
  · simp [stepG, stepG.exec, fat, Sem.runT_eq, hend, doReturn]
  · simp [stepG, stepG.exec, fat, Sem.runT_eq, hend, doReturn]
  · simp [stepG, stepG.exec, fat, Sem.runT_eq, hend, doReturn, he]

theorem around_ok {run : Runner} (hrun : RunOk P base run) {l : Nat} {args : List AVal} {h : AHeap} {r : CRes} {h' : AHeap} (hl : around run l args h = some (r, h')) {ρ : Emb} {w : World} {args' : Array Value} {loc : Loc}
    (hb : ρ l = some loc) (ha : LRel ρ args args'.toList) (hr : HRel base ρ h w) :
    ∃ nx s, (Instr.yield loc.c args').run P w = .ok nx w ∧ startOf P nx = some s ∧ ∀ (c : Frame) (cs : List Frame),
      ∃ r' w' ρ', EndRel ρ' r r' ∧ HRel base ρ' h' w' ∧ Trans ρ h w ρ' h' w' ∧ Steps P (lone s (c :: cs) w) (lone (r'.frame c) cs w') := by
  unfold around at hl
  split at hl
  case h_2 => cases hl
  rename_i L hg
  split at hl
  case isFalse => cases hl
  rename_i hcond
  obtain ⟨hstate, hargs⟩ := hcond
  obtain ⟨hbase, L', hg', hL⟩ := loop_at hr hb hg
  have hasz : args'.size = L'.params.size := by
    have h1 := ha.1
    have h2 := congrArg List.length hL.params
    simp at h1 h2
    omega
  let tm := (L'.params.zip args').foldl (fun tmps (x : Nat × Value) => tmps.setIfInBounds x.1 x.2) L'.tmps
  have htm : tm = (L.params.zip args'.toList).foldl (fun tmps (x : Nat × Value) => tmps.setIfInBounds x.1 x.2) L'.tmps := by
    show (L'.params.zip args').foldl _ _ = _
    rw [← hL.params, ← Array.foldl_toList, Array.toList_zip]
  obtain ⟨hfr, hsz⟩ := putParams_rel L.params args args'.toList L.fr L'.tmps ha hL.okP hL.frame
  rw [← htm] at hfr hsz
  refine ⟨.round loc.c L'.fn tm L'.assign L'.body, Frame.round loc.c L'.fn tm L'.assign L'.body .normal, ?_, rfl, fun c cs => ?_⟩
  · simp only [Instr.yield, Sem.run_bind, run_getLoop hg', Result.andThen_ok, hasz, ne_eq, not_true_eq_false, if_false, Sem.run_pure]
    rfl
  have hstart : Frame.round loc.c L'.fn tm L'.assign L'.body .normal = fat L'.fn .normal (some loc.c) tm [] [.code L.assign, .beginRound, .code L.body] := by
    simp [Frame.round, fat, hL.assign, hL.body]
  rw [hstart]
  have hrnd : RndOk ρ h (some loc.c) := fun l' e => by cases e; exact ⟨l, loc, L, hb, rfl, hg⟩
  have hpre : Pre base ρ h w [] (some loc.c) L'.tmps.size (putParams L.params args L.fr) tm := ⟨hsz, hfr, hr, (fun d hd => by cases hd), .nil, hrnd, .inr rfl⟩
  cases h1 : run L.assign (putParams L.params args L.fr) h with
  | none => rw [h1] at hl; simp at hl
  | some out1 =>
    obtain ⟨e1, fr1, ha1⟩ := out1
    rw [h1] at hl
    cases e1 <;> simp only at hl <;> (try (cases hl; done))
    obtain ⟨e', tmps1, ds1, w1, ρ1, post1, hds1, hland1⟩ := hrun _ _ _ _ _ _ h1 _ hL.okA ρ w [] (some loc.c) tm hpre L'.fn .normal [.beginRound, .code L.body] (c :: cs) _ (.inl rfl)
    have hex := post1.exit
    cases e' <;> try exact hex.elim
    have hds1' : ds1 = [] := hds1.resolve_left (by simp)
    subst hds1'
    -- the loop is busy
    split at hl
    case h_2 => cases hl
    rename_i L1 hg1
    split at hl
    case isFalse => cases hl
    rename_i hready
    have hb1 := post1.trans.ext _ _ hb
    obtain ⟨_, hga, hs1⟩ := post1.trans.loops l loc L hb hg
    rw [hg1] at hga; cases hga
    obtain ⟨hbase1, L1', hg1', hL1⟩ := loop_at post1.heap hb1 hg1
    have hLb : LoopRel ρ1 { L with state := .busy } { L1' with state := .busy } :=
      ⟨rfl, fun q => absurd rfl q, by rw [← hs1.params]; exact hL1.params, by rw [← hs1.assign]; exact hL1.assign, by rw [← hs1.body]; exact hL1.body, by rw [← hs1.fr]; exact hL1.frame, by rw [← hs1.params]; exact hL1.okP, by rw [← hs1.assign]; exact hL1.okA, by rw [← hs1.body]; exact hL1.okB⟩
    have hs1' : LSame L1 { L with state := .busy } := ⟨hs1.fr.symm, hs1.params.symm, hs1.assign.symm, hs1.body.symm⟩
    obtain ⟨hr2, ht2⟩ := loop_set post1.heap hb1 hg1 hs1' hLb
    have hbegin : step P (lone (fat L'.fn .normal (some loc.c) tmps1 [] [.beginRound, .code L.body]) (c :: cs) w1) =
        .next (lone (fat L'.fn .normal (some loc.c) tmps1 [] [.code L.body]) (c :: cs) { w1 with heap := w1.heap.setIfInBounds loc.c (.loop { L1' with state := .busy }) }) := by
      have hst1 : L1'.state = .ready := by rw [hL1.state]; exact hready
      have hbr : (Instr.beginRound loc.c).run P w1 = .ok () { w1 with heap := w1.heap.setIfInBounds loc.c (.loop { L1' with state := .busy }) } := by
        simp only [Instr.beginRound, Sem.run_bind, run_getLoop hg1', Result.andThen_ok, run_setLoop hg1', hst1, Sem.run_pure]
      refine step_lone_go ?_
      simp [stepG, stepG.exec, stepG.apply, fat, Sem.runT_eq, hbr, Frame.finish]
    have hpre2 : Pre base ρ1 (ha1.set l (.loop { L with state := .busy })) { w1 with heap := w1.heap.setIfInBounds loc.c (.loop { L1' with state := .busy }) } [] (some loc.c) L'.tmps.size fr1 tmps1 :=
      ⟨post1.size, post1.frame, hr2, (fun d hd => by cases hd), .nil, (hrnd.trans post1.trans).trans ht2, .inr rfl⟩
    cases h2 : run L.body fr1 (ha1.set l (.loop { L with state := .busy })) with
    | none => rw [h2] at hl; simp at hl
    | some out2 =>
      obtain ⟨e2, fr2, ha2⟩ := out2
      rw [h2] at hl
      obtain ⟨e'', tmps2, ds2, w2, ρ2, post2, hds2, hland2⟩ := hrun _ _ _ _ _ _ h2 _ hL.okB ρ1 _ [] (some loc.c) tmps1 hpre2 L'.fn .normal [] (c :: cs) _ (.inl rfl)
      have hds2' : ds2 = [] := hds2.resolve_left (by simp)
      subst hds2'
      have hex2 := post2.exit
      have hb2 := post2.trans.ext _ _ hb1
      obtain ⟨L2, hg2, hs2⟩ := post2.trans.loops l loc { L with state := .busy } hb1 (by rw [AHeap.get_set, if_pos rfl])
      obtain ⟨hbase2, L2', hg2', hL2⟩ := loop_at post2.heap hb2 hg2
      have tr12 : Trans ρ h w ρ2 ha2 w2 := (post1.trans.trans ht2).trans post2.trans
      have sall : Steps P (lone (fat L'.fn .normal (some loc.c) tm [] [.code L.assign, .beginRound, .code L.body]) (c :: cs) w) (lone (fat L'.fn .normal (some loc.c) tmps1 [] [.code L.body]) (c :: cs) { w1 with heap := w1.heap.setIfInBounds loc.c (.loop { L1' with state := .busy }) }) :=
        Steps.trans hland1 (.one hbegin)
      -- the end of a round
      have fin : ∀ (jump : Option Code) (todo : List Item), ((todo = [] ∧ jump = none) ∨ (∃ k, todo = .code .ret :: k ∧ jump = some .ret) ∨ (∃ id k, todo = .code (.exit id) :: k ∧ exitTo id k = none ∧ jump = some (.exit id))) →
          Steps P (lone (fat L'.fn .normal (some loc.c) tmps1 [] [.code L.body]) (c :: cs) { w1 with heap := w1.heap.setIfInBounds loc.c (.loop { L1' with state := .busy }) }) (lone (fat L'.fn .normal (some loc.c) tmps2 [] todo) (c :: cs) w2) →
          ∃ r' w' ρ', EndRel ρ' (.ret (.bool jump.isNone)) r' ∧ HRel base ρ' (ha2.set l (.loop { L with state := if jump.isNone then .ready else .done, pending := jump })) w' ∧
            Trans ρ h w ρ' (ha2.set l (.loop { L with state := if jump.isNone then .ready else .done, pending := jump })) w' ∧
            Steps P (lone (fat L'.fn .normal (some loc.c) tm [] [.code L.assign, .beginRound, .code L.body]) (c :: cs) w) (lone (r'.frame c) cs w') := by
        intro jump todo hj hst
        have hLe : LoopRel ρ2 { L with state := if jump.isNone then .ready else .done, pending := jump } { L2' with state := if jump.isNone then .ready else .done, pending := jump } :=
          ⟨rfl, fun _ => rfl, by rw [show L.params = L2.params from hs2.params.symm]; exact hL2.params, by rw [show L.assign = L2.assign from hs2.assign.symm]; exact hL2.assign, by rw [show L.body = L2.body from hs2.body.symm]; exact hL2.body,
            by rw [show L.fr = L2.fr from hs2.fr.symm]; exact hL2.frame, by rw [show L.params = L2.params from hs2.params.symm]; exact hL2.okP, by rw [show L.assign = L2.assign from hs2.assign.symm]; exact hL2.okA, by rw [show L.body = L2.body from hs2.body.symm]; exact hL2.okB⟩
        obtain ⟨hr3, ht3⟩ := loop_set post2.heap hb2 hg2 (L := { L with state := if jump.isNone then .ready else .done, pending := jump }) ⟨hs2.fr.symm, hs2.params.symm, hs2.assign.symm, hs2.body.symm⟩ hLe
        exact ⟨.ret (.bool jump.isNone), _, ρ2, .bool _, hr3, tr12.trans ht3, (sall.trans hst).trans (.one (st_leave hg2' hj))⟩
      cases e2 <;> simp only at hl <;> (try (cases hl; done))
      · cases hl
        cases e'' <;> try exact hex2.elim
        exact fin none [] (.inl ⟨rfl, rfl⟩) hland2
      · rename_i id
        cases hl
        cases e'' <;> try exact hex2.elim
        rename_i id'
        have : id = id' := hex2
        subst this
        obtain ⟨k2, hk, hst⟩ := hland2
        exact fin (some (.exit id)) _ (.inr (.inr ⟨id, k2, rfl, by rw [hk]; rfl, rfl⟩)) hst
      · cases hl
        cases e'' <;> try exact hex2.elim
        obtain ⟨k2, hst⟩ := hland2
        exact fin (some .ret) _ (.inr (.inl ⟨k2, rfl, rfl⟩)) hst
      · rename_i v
        cases hl
        cases e'' <;> try exact hex2.elim
        rename_i v'
        obtain ⟨k2, hk, hst⟩ := hland2
        refine ⟨.pan v', w2, ρ2, hex2, post2.heap, tr12, (sall.trans hst).trans (.one (step_lone_go ?_))⟩
        have hcat : Frame.catches P { fat L'.fn .normal (some loc.c) tmps2 [] k2 with mode := .panicking [{ v := v', recovered := false }] } = false := by
          unfold Frame.catches
          cases k2 with
          | nil => simp [fat]
          | cons x k2 => cases x <;> first | (simp [notCall] at hk; done) | simp [fat]
        simp only [fat] at hcat
        simp [stepG, fat, unwind, hcat, CEnd.frame]

include ok in
theorem acall_ok {run : Runner} (hrun : RunOk P base run) : CallOk P base (acall T run) := by
  intro f args h r h' hl ρ w f' args' hf ha hr
  unfold acall at hl
  split at hl
  · rename_i g first captured
    cases hf with
    | func _ fn' _ _ f2 c2 hfn hfl hcl hfs hcs =>
    rcases hfn with ⟨_, _, e, _⟩ | ⟨g', e, rfl⟩
    · cases e
    cases e
    have hl2 : (∃ v, T.consts.get g = some v ∧ first = [] ∧ args = [] ∧ captured = [] ∧ r = .ret v ∧ h' = h) ∨ acallFn T run g (first ++ args ++ captured) h = some (r, h') := by
      split at hl
      · rename_i v hv; cases hl; exact .inl ⟨v, hv, rfl, rfl, rfl, rfl, rfl⟩
      · exact .inr hl
    rcases hl2 with ⟨v, hv, rfl, rfl, rfl, rfl, rfl⟩ | hl
    · obtain ⟨⟨F, hF, hn, hb⟩, hcalls⟩ := ok.consts g v hv
      have e1 : f2 = #[] := Array.eq_empty_of_size_eq_zero (by rw [← hfl]; rfl)
      have e2 : c2 = #[] := Array.eq_empty_of_size_eq_zero (by rw [← hcl]; rfl)
      have e3 : args' = #[] := by
        have := ha.1
        exact Array.eq_empty_of_size_eq_zero (by simpa using this.symm)
      subst e1 e2 e3
      refine ⟨.enter g #[], Frame.enter P g #[] .normal, ?_, rfl, fun c cs => ?_⟩
      · simp only [Deferred.ofValue, Sem.run_bind, Sem.run_pure, Result.andThen_ok, invoke]
        exact run_callFunc hF hn hb _ w
      · obtain ⟨e, w', fr, ⟨v', rfl, h1, h2, h3, h4, h5, h6⟩, hcomes, hfn, hleave⟩ := hcalls w (c :: cs)
        refine ⟨.ret v', w', ρ, h1 ρ, ?_, .same h2 (fun k hk _ => h3 k hk) h4 h5 h6, Steps.trans hcomes (.one (step_leave_returned hleave))⟩
        refine ⟨⟨fun b l hb => Nat.lt_of_lt_of_le (hr.clt b l hb) h2, fun b l hb => (hr.blk b l hb).mono (.refl _) (h3 _ (hr.clt b l hb)), hr.inj, Nat.le_trans hr.base h2⟩, hr.lt⟩
    have h1 : LRel ρ first f2.toList := ⟨by simpa using hfl, fun i v v' a b => hfs i v v' a (by simpa using b)⟩
    have h2 : LRel ρ captured c2.toList := ⟨by simpa using hcl, fun i v v' a b => hcs i v v' a (by simpa using b)⟩
    have h3 : LRel ρ (first ++ args ++ captured) ((f2 ++ args') ++ c2).toList := by
      simp only [Array.toList_append]
      exact (h1.append ha).append h2
    obtain ⟨⟨F, hF, hn, hb⟩, _⟩ := fn_ok ok hrun hl h3 hr
    refine ⟨.enter g ((f2 ++ args') ++ c2), Frame.enter P g ((f2 ++ args') ++ c2) .normal, ?_, rfl, fnCall_ok ok hrun hl h3 hr⟩
    simp only [Deferred.ofValue, Sem.run_bind, Sem.run_pure, Result.andThen_ok, invoke]
    exact run_callFunc hF hn hb _ w
  · rename_i l first captured
    cases hf with
    | func _ fn' _ _ f2 c2 hfn hfl hcl hfs hcs =>
    rcases hfn with ⟨l1, l2, e, rfl, loc, hb, hc⟩ | ⟨g', e, _⟩
    case inr => cases e
    cases e
    subst hc
    have h1 : LRel ρ first f2.toList := ⟨by simpa using hfl, fun i v v' a b => hfs i v v' a (by simpa using b)⟩
    have h3 : LRel ρ (first ++ args) (f2 ++ args').toList := by
      simp only [Array.toList_append]
      exact h1.append ha
    obtain ⟨nx, s, q1, q2, q3⟩ := around_ok hrun hl hb h3 hr
    refine ⟨nx, s, ?_, q2, q3⟩
    simp only [Deferred.ofValue, Sem.run_bind, Sem.run_pure, Result.andThen_ok, invoke]
    exact q1
  · cases hl

end

end Go.Ai
