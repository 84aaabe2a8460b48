/- An abstract interpreter for the model's code: what stands at the end of a function; calls of functions. -/
import Derived.Test.YtpiblfbidgcjaaaAiRun2
namespace Go.Ai

section
variable {T : Tab} {P : Program} (ok : T.Ok P) {base : Nat}

theorem argFrame_ev : ∀ (vs : List AVal) (i : Nat) (fr : AFrame) (t : Nat), AFrame.ev (argFrame i vs fr) t = if i ≤ t then (match vs[t - i]? with | some v => v | none => fr.ev t) else fr.ev t
  | [], i, fr, t => by simp [argFrame]
  | v :: vs, i, fr, t => by
    simp only [argFrame]
    rw [argFrame_ev vs (i + 1), AFrame.ev_set]
    by_cases h : i ≤ t
    · rw [if_pos h]
      by_cases e : t = i
      · subst e
        rw [if_neg (by omega)]; simp
      · rw [if_pos (by omega), show t - i = (t - (i + 1)) + 1 from by omega]
        simp [e]
    · rw [if_neg h, if_neg (by omega), if_neg (by omega)]

theorem args_rel {ρ : Emb} {args : List AVal} {args' : Array Value} (h : LRel ρ args args'.toList) (m : Nat) : FRel ρ (argFrame 0 args .leaf) (args' ++ Array.replicate m undef) := by
  intro t
  rw [argFrame_ev]
  simp only [Nat.zero_le, if_true, Nat.sub_zero]
  cases hv : args[t]? with
  | none => exact .undef _
  | some v =>
    obtain ⟨v', hv', hvv⟩ := h.at hv
    have ht : t < args'.size := by
      rw [Array.getElem?_toList] at hv'
      exact (Array.getElem?_eq_some_iff.1 hv').1
    have e : (args' ++ Array.replicate m undef).getD t undef = v' := by
      rw [Array.getD_eq_getD_getElem?, Array.getElem?_append_left ht]
      rw [Array.getElem?_toList] at hv'
      rw [hv']; rfl
    rw [e]
    exact hvv

/- the markers that a range over a function has left are taken -/
theorem unwind_ds {fr : Frame} (hm : fr.mode = .returning ∨ ∃ ch, fr.mode = .panicking ch) (cs : List Frame) : ∀ (ds : List Deferred) (w : World), DsOk ds w → DsNodup ds →
    ∃ w', Steps P (lone { fr with defers := ds } cs w) (lone { fr with defers := [] } cs w') ∧ w'.heap.size = w.heap.size ∧ w'.os = w.os ∧ w'.tape = w.tape ∧ w'.output = w.output ∧
      (∀ k, (∀ d ∈ ds, d ≠ { target := .collected k, args := #[] }) → w'.heap[k]? = w.heap[k]?)
  | [], w, _, _ => ⟨w, .refl _ _, rfl, rfl, rfl, rfl, fun _ _ => rfl⟩
  | d :: ds, w, hd, hn => by
    obtain ⟨r, rfl, hr⟩ := hd d (List.mem_cons_self ..)
    have hlt : r < w.heap.size := (Array.getElem?_eq_some_iff.1 hr).1
    let w1 : World := { w with heap := w.heap.setIfInBounds r (.deferred none) }
    have hstep : step P (lone { fr with defers := { target := .collected r, args := #[] } :: ds } cs w) = .next (lone { fr with defers := ds } cs w1) := by
      refine step_lone_go ?_
      have htd : (Instr.takeDeferred r).run P w = .ok [] w1 := by
        simp [Instr.takeDeferred, getObj, setObj, Sem.run, hr, w1]
      rcases hm with hm | ⟨ch, hm⟩ <;> simp [stepG, hm, unwind, Sem.runT_eq, htd]
    have hd1 : DsOk ds w1 := by
      intro d' hd'
      obtain ⟨r', e, h'⟩ := hd d' (List.mem_cons_of_mem _ hd')
      refine ⟨r', e, ?_⟩
      have hne : r ≠ r' := by
        rintro rfl
        have := (List.pairwise_cons.1 hn).1 d' hd'
        exact this e.symm
      simp [w1, Array.getElem?_setIfInBounds, hne, h']
    obtain ⟨w', h1, h2, h3, h4, h5, h6⟩ := unwind_ds hm cs ds w1 hd1 (List.pairwise_cons.1 hn).2
    refine ⟨w', .head hstep h1, by rw [h2]; simp [w1], h3, h4, h5, fun k hk => ?_⟩
    rw [h6 k (fun d' hd' => hk d' (List.mem_cons_of_mem _ hd'))]
    have hne : r ≠ k := by
      rintro rfl
      exact hk _ (List.mem_cons_self ..) rfl
    simp [w1, Array.getElem?_setIfInBounds, hne]

theorem HRel.unmark {ρ : Emb} {h : AHeap} {w w' : World} {ds : List Deferred} (hr : HRel base ρ h w) (hd : DsOk ds w) (hsz : w'.heap.size = w.heap.size)
    (hk : ∀ k, (∀ d ∈ ds, d ≠ { target := .collected k, args := #[] }) → w'.heap[k]? = w.heap[k]?) : HRel base ρ h w' := by
  refine ⟨⟨fun b l hb => by rw [hsz]; exact hr.clt b l hb, fun b l hb => ?_, hr.inj, by rw [hsz]; exact hr.base⟩, hr.lt⟩
  have hblk := hr.blk b l hb
  cases hg : h.get b with
  | none => rw [hg] at hblk; exact hblk.elim
  | some y =>
    by_cases hy : y = .dead
    · subst hy; trivial
    · rw [hg] at hblk
      refine hblk.mono (.refl _) (hk _ ?_)
      intro d hd' e
      obtain ⟨r, e2, h2⟩ := hd d hd'
      rw [e] at e2
      simp at e2
      subst e2
      exact hr.notMarker hb (by unfold Alive; rw [hg]; cases y <;> first | trivial | exact hy rfl) h2 rfl

include ok in
theorem loadVar_ok {ρ : Emb} {h : AHeap} {w : World} {t : TypeId} {b off : Nat} {l : Loc} {v : AVal} (hr : HRel base ρ h w) (hb : ρ b = some l) (hl : aload T t h (.ptr b off) = some v) :
    ∃ v', (loadVar t ⟨l.c, l.o + off, none⟩).run P w = .ok v' w ∧ VRel ρ v v' := by
  unfold aload at hl
  simp only at hl
  split at hl
  case h_2 => cases hl
  rename_i cells ro hg
  obtain ⟨cc, el, fz, h1, h2, h3, h4, h5⟩ := arr_at hr.toH0 hb hg
  unfold apart at hl
  split at hl
  · rename_i hagg
    split at hl
    case h_2 => cases hl
    rename_i n hn
    split at hl
    case isFalse => cases hl
    rename_i hle
    cases hl
    obtain ⟨j, hj, hjs⟩ := ok.size hn
    refine ⟨.agg ((cc.toList.drop (l.o + off)).take n).toArray, ?_, .agg' (piece_rel h4 off n hle (by omega))⟩
    simp only [loadVar, Sem.run_bind, Sem.run_pure, Result.andThen_ok, run_isAgg' ok hagg, if_true, run_sizeOf' hj, hjs]
    rw [run_loadRow w l.c (l.o + off) n cc el fz h1 (by omega)]
    rfl
  · rename_i hagg
    have hi : off < cells.length := (List.getElem?_eq_some_iff.1 hl).1
    obtain ⟨v', hv', hvv⟩ := h4.at hl
    rw [List.getElem?_take, if_pos hi, List.getElem?_drop, Array.getElem?_toList] at hv'
    refine ⟨v', ?_, hvv⟩
    simp only [loadVar, Sem.run_bind, Sem.run_pure, Result.andThen_ok, run_isAgg' ok hagg, Bool.false_eq_true, if_false, run_load]
    rw [cell_of_row w l.c (l.o + off) cc el fz h1, hv']
  · cases hl

def resVal (tmps : Array Value) : ResultVar → Sem Value
  | .tmp t => pure (tmps.getD t undef)
  | .cell a t => do loadVar t (← asAddr (tmps.getD a undef))

theorem results_eq (F : Func) (tmps : Array Value) : results F tmps = (do
    let vs ← F.results.mapM (resVal tmps)
    pure (if h : vs.size = 1 then vs[0] else .tuple vs) : Sem Value) := by
  unfold results
  have e : (fun (x : ResultVar) => match x with
    | .tmp t => (pure (tmps.getD t undef) : Sem Value)
    | .cell a t => do loadVar t (← asAddr (tmps.getD a undef))) = resVal tmps := by
    funext x; cases x <;> rfl
  rw [← e]
  rfl

include ok in
theorem results_ok {ρ : Emb} {h : AHeap} {w : World} {fr : AFrame} {tmps : Array Value} (hr : HRel base ρ h w) (hf : FRel ρ fr tmps) : ∀ (rs : List ResultVar) (vs : List AVal), aresults T rs fr h = some vs →
    ∃ vs' : List Value, (rs.mapM (resVal tmps)).run P w = .ok vs' w ∧ LRel ρ vs vs'
  | [], vs, hl => by simp [aresults] at hl; subst hl; exact ⟨[], rfl, .nil _⟩
  | r :: rs, vs, hl => by
    simp only [aresults] at hl
    cases h1 : aresult T fr h r with
    | none => rw [h1] at hl; cases hl
    | some v =>
      cases h2 : aresults T rs fr h with
      | none => rw [h1, h2] at hl; cases hl
      | some us =>
        rw [h1, h2] at hl
        cases hl
        obtain ⟨us', h3, h4⟩ := results_ok hr hf rs us h2
        have key : ∃ v', (resVal tmps r).run P w = .ok v' w ∧ VRel ρ v v' := by
          cases r with
          | tmp t =>
            simp only [aresult] at h1
            cases h1
            exact ⟨_, rfl, hf t⟩
          | cell a t =>
            simp only [aresult] at h1
            have hp := hf a
            have h1' := h1
            unfold aload at h1'
            split at h1'
            case h_2 => cases h1'
            rename_i b off he
            rw [he] at hp h1
            generalize hcc : tmps.getD a undef = cc at hp
            cases hp with
            | ptr _ _ l hb =>
            obtain ⟨v', k1, k2⟩ := loadVar_ok (P := P) ok hr hb h1
            refine ⟨v', ?_, k2⟩
            simp only [resVal, Sem.run_bind, hcc, asAddr, Sem.run_pure, Result.andThen_ok]
            exact k1
        obtain ⟨v', k1, k2⟩ := key
        refine ⟨v' :: us', ?_, .cons k2 h4⟩
        rw [List.mapM_cons]
        simp only [Sem.run_bind, k1, Result.andThen_ok, h3, Sem.run_pure]

theorem packed_rel {ρ : Emb} {vs : List AVal} {vs' : List Value} (h : LRel ρ vs vs') : VRel ρ (packed vs) (if h : vs'.toArray.size = 1 then vs'.toArray[0] else .tuple vs'.toArray) := by
  match vs, vs', h with
  | [], [], h => exact .tuple' h
  | [v], [v'], h => exact h.head
  | v :: u :: vs, v' :: u' :: vs', h => exact .tuple' h
  | [], _ :: _, h => exact absurd h.1 (by simp)
  | _ :: _, [], h => exact absurd h.1 (by simp)
  | [_], _ :: _ :: _, h => exact absurd h.1 (by simp)
  | _ :: _ :: _, [_], h => exact absurd h.1 (by simp)

/- what a call of a function comes to -/
def FnEnd (base : Nat) (ρ : Emb) (h : AHeap) (w : World) (r : CRes) (h' : AHeap) (e : Ending) (w' : World) : Prop :=
  ∃ ρ', HRel base ρ' h' w' ∧ Trans ρ h w ρ' h' w' ∧ ((∃ v v', r = .ret v ∧ e = .returned v' ∧ VRel ρ' v v') ∨ (∃ v v', r = .pan v ∧ e = .panicked [{ v := v', recovered := false }] ∧ VRel ρ' v v'))

include ok in
theorem fn_ok {run : Runner} (hrun : RunOk P base run) {f : FuncId} {args : List AVal} {h : AHeap} {r : CRes} {h' : AHeap} (hl : acallFn T run f args h = some (r, h')) {ρ : Emb} {w : World} {args' : Array Value}
    (ha : LRel ρ args args'.toList) (hr : HRel base ρ h w) :
    (∃ F, P.funcs[f]? = some F ∧ (F.name == "runtime.NumGoroutine") = false ∧ F.body.isSome = true) ∧ Calls P f args' w (FnEnd base ρ h w r h') := by
  unfold acallFn at hl
  split at hl
  case h_2 => cases hl
  rename_i F hF
  obtain ⟨hPF, hname, hcode⟩ := ok.funcs f F hF
  cases hbl : Nat.blt F.ntmps args.length with
  | true => rw [hbl] at hl; cases hl
  | false =>
  rw [hbl] at hl
  simp only [cond_false] at hl
  have hlen : args.length ≤ F.ntmps := by
    have : ¬ F.ntmps < args.length := by
      intro hh
      have : Nat.blt F.ntmps args.length = true := by rw [Nat.blt_eq]; exact hh
      rw [hbl] at this; cases this
    omega
  split at hl
  case h_2 => cases hl
  rename_i c hc
  refine ⟨⟨F, hPF, hname, by rw [hc]; rfl⟩, ?_⟩
  have hcok := hcode c hc
  have hsz : args'.size = args.length := by rw [ha.1]; simp
  intro cs
  have henter : Frame.enter P f args' .normal = fat f .normal none (args' ++ Array.replicate (F.ntmps - args'.size) undef) [] [.code c] := by
    simp [Frame.enter, fat, hPF, hc]
  have hpre : Pre base ρ h w [] none F.ntmps (argFrame 0 args .leaf) (args' ++ Array.replicate (F.ntmps - args'.size) undef) :=
    ⟨by simp; omega, args_rel ha _, hr, (fun d hd => by cases hd), .nil, (fun l' e => by cases e), .inl rfl⟩
  rw [henter]
  -- the frame that returns
  have finish : ∀ (fr' : AFrame) (e : AExit) (vs : List AVal) (e' : CExit) (tmps' : Array Value) (ds' : List Deferred) (w' : World) (ρ' : Emb) (todo : List Item), aresults T F.results.toList fr' h' = some vs →
      Post base ρ h w [] F.ntmps e fr' h' e' tmps' ds' w' ρ' → Steps P (lone (fat f .normal none (args' ++ Array.replicate (F.ntmps - args'.size) undef) [] [.code c]) cs w) (lone { fat f .normal none tmps' ds' todo with mode := .returning } cs w') →
      ∃ e w2 fr2, FnEnd base ρ h w (.ret (packed vs)) h' e w2 ∧ Comes P (lone (fat f .normal none (args' ++ Array.replicate (F.ntmps - args'.size) undef) [] [.code c]) cs w) (lone fr2 cs w2) e ∧ fr2.fn = f ∧ fr2.leaving P w2 e := by
    intro fr' e vs e' tmps' ds' w' ρ' todo hres post hsteps
    obtain ⟨w2, u1, u2, u3, u4, u5, u6⟩ := unwind_ds (P := P) (fr := { fat f .normal none tmps' ds' todo with mode := .returning }) (.inl rfl) cs ds' w' post.dsok post.dsnd
    have hr2 : HRel base ρ' h' w2 := post.heap.unmark post.dsok u2 u6
    obtain ⟨vs', hv1, hv2⟩ := results_ok (P := P) ok hr2 post.frame F.results.toList vs hres
    have hrun2 : (results F tmps').run P w2 = .ok (if h : vs'.toArray.size = 1 then vs'.toArray[0] else .tuple vs'.toArray) w2 := by
      rw [results_eq, Array.mapM_eq_mapM_toList]
      simp only [Sem.run_bind, Sem.run_map, hv1, Result.andThen_ok, Sem.run_pure]
    obtain ⟨news, en, hn⟩ := post.dsnew
    refine ⟨.returned _, w2, { fat f .normal none tmps' [] todo with mode := .returning }, ⟨ρ', hr2, ?_, .inl ⟨_, _, rfl, rfl, packed_rel hv2⟩⟩, hsteps.trans u1, rfl, ⟨rfl, rfl, rfl, F, hPF, hrun2⟩⟩
    refine ⟨post.trans.ext, by rw [u2]; exact post.trans.size, fun k hk hb => ?_, post.trans.own, u3.trans post.trans.os, u4.trans post.trans.tape, u5.trans post.trans.output, post.trans.loops, post.trans.next, post.trans.dom, post.trans.junk⟩
    rw [u6 k ?_]
    · exact post.trans.frame k hk hb
    · intro d hd e
      have hd' : d ∈ news := by rw [en] at hd; simpa using hd
      have := hn d hd' k e
      omega
  cases hrn : run c (argFrame 0 args .leaf) h with
  | none => rw [hrn] at hl; cases hl
  | some out =>
    obtain ⟨e, fr', h2⟩ := out
    rw [hrn] at hl
    obtain ⟨e', tmps', ds', w', ρ', post, hnds, hland⟩ := hrun _ _ _ _ _ _ hrn F.ntmps hcok ρ w [] none _ hpre f .normal [] cs _ (.inl rfl)
    cases e with
    | normal =>
      simp only at hl
      cases hres : aresults T F.results.toList fr' h2 with
      | none => rw [hres] at hl; cases hl
      | some vs =>
        rw [hres] at hl
        cases hl
        have hex := post.exit
        cases e' <;> try exact hex.elim
        have hst : step P (lone (fat f .normal none tmps' ds' []) cs w') = .next (lone { fat f .normal none tmps' ds' [] with mode := .returning } cs w') := step_lone_go (by simp [stepG, stepG.exec, fat])
        exact finish fr' .normal vs .normal tmps' ds' w' ρ' [] hres post (Steps.trans hland (.one hst))
    | ret =>
      simp only at hl
      cases hres : aresults T F.results.toList fr' h2 with
      | none => rw [hres] at hl; cases hl
      | some vs =>
        rw [hres] at hl
        cases hl
        have hex := post.exit
        cases e' <;> try exact hex.elim
        obtain ⟨k2, hk2⟩ := hland
        have hst : step P (lone (fat f .normal none tmps' ds' (.code .ret :: k2)) cs w') = .next (lone { fat f .normal none tmps' ds' (.code .ret :: k2) with mode := .returning } cs w') := step_lone_go (by simp [stepG, stepG.exec, fat])
        exact finish fr' .ret vs .ret tmps' ds' w' ρ' _ hres post (Steps.trans hk2 (.one hst))
    | pan v =>
      simp only at hl
      cases hl
      have hex := post.exit
      cases e' <;> try exact hex.elim
      rename_i v'
      obtain ⟨k2, _, hk2⟩ := hland
      obtain ⟨w2, u1, u2, u3, u4, u5, u6⟩ := unwind_ds (P := P) (fr := { fat f .normal none tmps' ds' k2 with mode := .panicking [{ v := v', recovered := false }] }) (.inr ⟨_, rfl⟩) cs ds' w' post.dsok post.dsnd
      obtain ⟨news, en, hn⟩ := post.dsnew
      refine ⟨.panicked [{ v := v', recovered := false }], w2, { fat f .normal none tmps' [] k2 with mode := .panicking [{ v := v', recovered := false }] }, ⟨ρ', post.heap.unmark post.dsok u2 u6, ?_, .inr ⟨v, v', rfl, rfl, hex⟩⟩, hk2.trans u1, rfl, ⟨rfl, rfl, F, hPF⟩⟩
      refine ⟨post.trans.ext, by rw [u2]; exact post.trans.size, fun k hk hb => ?_, post.trans.own, u3.trans post.trans.os, u4.trans post.trans.tape, u5.trans post.trans.output, post.trans.loops, post.trans.next, post.trans.dom, post.trans.junk⟩
      rw [u6 k ?_]
      · exact post.trans.frame k hk hb
      · intro d hd e
        have hd' : d ∈ news := by rw [en] at hd; simpa using hd
        have := hn d hd' k e
        omega
    | exit id => simp at hl
    | goto l => simp at hl

end

end Go.Ai
