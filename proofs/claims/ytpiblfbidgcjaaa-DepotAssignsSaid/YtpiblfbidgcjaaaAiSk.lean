/- Calls that hand owned things over and get them back changed. -/
import Derived.Test.YtpiblfbidgcjaaaAiSg
namespace Go.Ai.Sx

def FunM (T : Tab) (g : FuncId) (as : List TE) (L0 : Own) (rs : List RE) (L1 : List AVal → Own) : Prop :=
  ∀ z h vs, z.Sub h → h.wm ≤ h.next → okAll z as vs → OwnOk ⟨z, h, blks L0⟩ z h L0 → CallF T g vs h fun r h' => ∃ us z' γ, r = .ret (packed us) ∧ us.length = rs.length ∧ Chg ⟨z, h, blks L0⟩ h' ∧ z.le z' ∧ z'.Sub h' ∧ (∀ b, b < h.next → b ∉ blks L0 → z' b = z b) ∧ okAll z' (tes rs us) us ∧ OwnOk ⟨z, h, blks L0⟩ z' h' (owns rs us ++ L1 γ)

section
variable {C : Ctx} {T : Tab} {d : Option (List Nat)} {ops rest : List Oper} {Γ : Env} {L : Own} {Q : AFrame → AHeap → Prop} {P : AExit → AFrame → AHeap → Prop} {o : Oper} {t : Nat} {z : Store} {fr : AFrame} {h : AHeap}

theorem picks_out {ks js : List Nat} (hn : (ks ++ js).Nodup) (hb : (blks L).Nodup) {p : AVal × Obj} {b : Nat} (hp : p ∈ picks L js) (h1 : b ∈ blkE p) : b ∉ blks (picks L ks) := by
  intro q
  obtain ⟨p', hp', h2⟩ := mem_blks.1 q
  obtain ⟨i, i1, i2⟩ := picks_mem hp
  obtain ⟨j, j1, j2⟩ := picks_mem hp'
  have := blks_apart hb i2 j2 h1 h2
  subst this
  exact (List.nodup_append.1 hn).2.2 i j1 i i1 rfl

theorem picks_sub {ks : List Nat} {p : AVal × Obj} (hp : p ∈ picks L ks) : p ∈ L := by
  obtain ⟨i, _, h2⟩ := picks_mem hp
  exact List.mem_of_getElem? h2

theorem StZ.afterM (s : StZ C Γ L z fr h) {ks js : List Nat} (hn : (ks ++ js).Nodup) {h' : AHeap} {z' : Store} {O : Own} (q : Chg ⟨z, h, blks (picks L ks)⟩ h') (hz : z.le z') (hs : z'.Sub h') (hold : ∀ b, b < h.next → b ∉ blks (picks L ks) → z' b = z b) (ho : OwnOk ⟨z, h, blks (picks L ks)⟩ z' h' O) : StZ C Γ (O ++ picks L js) z' fr h' := by
  have inn : ∀ b, b ∈ blks (picks L ks) → b < h.next ∧ (C.h0.next ≤ b ∨ b ∈ C.B0) := fun b hb => by
    obtain ⟨p, hp, h1⟩ := mem_blks.1 hb
    obtain ⟨_, o2, o3⟩ := s.own.out p (picks_sub hp) b h1
    exact ⟨o2, o3⟩
  have notin : ∀ b, b < C.h0.next → b ∉ C.B0 → b ∉ blks (picks L ks) := fun b hb hB hq => by
    rcases (inn b hq).2 with q1 | q1
    · omega
    · exact hB q1
  have qn : h.next ≤ h'.next := q.next
  have sn := s.chg.next
  refine { zle := s.zle.trans hz, sub := hs, old := fun b hb hB => ?_, fr := s.fr.mono hz, own := ⟨?_, ?_, ?_⟩, chg := ⟨Nat.le_trans sn qn, fun b hb hB => ?_, fun m m1 m2 m3 => ?_, q.ok⟩ }
  · rw [hold b (by omega) (notin b hb hB)]; exact s.old b hb hB
  · intro p hp
    rcases List.mem_append.1 hp with hp | hp
    · exact ho.ok p hp
    · exact Obj.ok_mono hz (fun b hb => q.same b (s.own.out p (picks_sub hp) b hb).2.1 (picks_out hn s.own.nodup hp hb)) (s.own.ok p (picks_sub hp))
  · intro p hp b hb
    rcases List.mem_append.1 hp with hp | hp
    · obtain ⟨o1, o2, o3⟩ := ho.out p hp b hb
      refine ⟨o1, o2, ?_⟩
      rcases o3 with q1 | q1
      · exact .inl (Nat.le_trans sn q1)
      · exact (inn b q1).2
    · obtain ⟨o1, o2, o3⟩ := s.own.out p (picks_sub hp) b hb
      exact ⟨by rw [hold b o2 (picks_out hn s.own.nodup hp hb)]; exact o1, Nat.lt_of_lt_of_le o2 qn, o3⟩
  · rw [show blks (O ++ picks L js) = blks O ++ blks (picks L js) by simp [blks]]
    refine List.nodup_append.2 ⟨ho.nodup, picks_nodup s.own.nodup (List.nodup_append.1 hn).2.1, fun a ha b hb e => ?_⟩
    subst e
    obtain ⟨p, hp, h1⟩ := mem_blks.1 ha
    obtain ⟨p', hp', h2⟩ := mem_blks.1 hb
    rcases (ho.out p hp a h1).2.2 with q1 | q1
    · have q1 : h.next ≤ a := q1
      have := (s.own.out p' (picks_sub hp') a h2).2.1
      omega
    · exact picks_out hn s.own.nodup hp' h2 q1
  · have : h'.get b = h.get b := q.same b (Nat.lt_of_lt_of_le hb sn) (notin b hb hB)
    rw [this]; exact s.chg.same b hb hB
  · refine q.wm m (s.chg.wm m m1 m2 m3) (Nat.le_trans m2 sn) fun b hb => ?_
    rcases (inn b hb).2 with q1 | q1
    · omega
    · exact m3 b q1

theorem StZ.lent (s : StZ C Γ L z fr h) {ks : List Nat} (hn : ks.Nodup) : OwnOk ⟨z, h, blks (picks L ks)⟩ z h (picks L ks) :=
  ⟨fun p hp => s.own.ok p (picks_sub hp), fun p hp b hb => ⟨(s.own.out p (picks_sub hp) b hb).1, (s.own.out p (picks_sub hp) b hb).2.1, .inr (mem_blks.2 ⟨p, hp, hb⟩)⟩, picks_nodup s.own.nodup hn⟩

/- the call of a function, or of a closure that was made here, with things owned -/
theorem s_callm {c : Call} {x : Operand} {g : FuncId} {pre post : List AVal} {as : List TE} {rs : List RE} {L0 Lr : Own} {L1 : List AVal → Own} (ks js : List Nat) (hf : FunM T g as L0 rs L1) (h0 : picks L ks = L0) (hr : picks L js = Lr) (hn : (ks ++ js).Nodup) (hcst : T.consts.get g = none) (hw : Want ops Γ true o.guard) (ho : o.op = .call c) (hd : o.dst = some t) (hc : c.callee = .value x) (hx : Opd Γ x (.raw (.func (.func g) [] []))) (hvs : Opds Γ c.args.toList as)
    (hq : ∀ γ, RQ rs (L1 γ ++ Lr) fun es L' => SOps C T none ops rest ((t, teOf es) :: Γ) L' Q) : SOps C T none ops (o :: rest) Γ L Q := by
  subst h0 hr
  intro fr h ⟨z, s⟩
  have ha : aop T fr.op h o.op = some (.call (.func (.func g) [] []) (c.args.toList.map fr.op)) := by rw [ho]; simp only [aop, opCall, hc, hx.raw s.fr]
  simp only [wX, hw.ok s.fr, ha, hd, put_some]
  refine callV_func hcst ?_
  rw [List.nil_append, List.append_nil]
  refine (hf z h _ s.sub s.chg.ok (hvs.ok s.fr) (s.lent (List.nodup_append.1 hn).1)).mono fun r h' ⟨us, z', γ, e1, hl, q, hz, hs, hold, hok, hown⟩ => ⟨packed us, e1, ?_⟩
  have s' := s.afterM (js := js) hn q hz hs hold hown
  rw [List.append_assoc] at s'
  exact (hq γ).at hl _ _ ⟨z', s'.set (teOf_ok hl hok)⟩

/- a function that is handed owned things -/
def RetM (C : Ctx) (T : Tab) (res : List ResultVar) (rs : List RE) (L1 : List AVal → Own) (e : AExit) (fr : AFrame) (h : AHeap) : Prop :=
  (e = .normal ∨ e = .ret) ∧ ∃ us z γ, aresults T res fr h = some us ∧ us.length = rs.length ∧ C.z0.le z ∧ z.Sub h ∧ (∀ b, b < C.h0.next → b ∉ C.B0 → z b = C.z0 b) ∧ okAll z (tes rs us) us ∧ OwnOk C z h (owns rs us ++ L1 γ) ∧ Chg C h

theorem retm_goto {res : List ResultVar} {rs : List RE} {L1 : List AVal → Own} : ∀ l fr h, ¬ RetM C T res rs L1 (.goto l) fr h := fun l fr h q => by rcases q.1 with e | e <;> cases e

theorem picks_app {L : Own} : ∀ {is js : List Nat}, picks L (is ++ js) = picks L is ++ picks L js
  | [], _ => rfl
  | i :: is, js => by
    simp only [List.cons_append, picks]
    cases L[i]? with
    | none => exact picks_app
    | some p => simp only [List.cons_append, picks_app]

theorem retm_of {e : AExit} {res : List ResultVar} {rs : List RE} {L1 : List AVal → Own} {ks : List Nat} (js : List Nat) (γ : List AVal) (he : e = .normal ∨ e = .ret) (q : Rets T Γ L res rs ks) (hL : picks L js = L1 γ) (hn : (ks ++ js).Nodup) : ∀ fr h, St C Γ L fr h → RetM C T res rs L1 e fr h := by
  intro fr h ⟨z, s⟩
  obtain ⟨us, h1, h2, h3, h4⟩ := q.ok s
  refine ⟨he, us, z, γ, h1, h2, s.zle, s.sub, s.old, h3, ?_, s.chg⟩
  rw [h4, ← hL, ← picks_app]
  exact ⟨fun p hp => s.own.ok p (picks_sub hp), fun p hp => s.own.out p (picks_sub hp), picks_nodup s.own.nodup hn⟩

theorem funm_of {g : FuncId} {F : Func} {c : Code} {as : List TE} {rs : List RE} {L0 : Own} {L1 : List AVal → Own} (hF : T.funcs.get g = some F) (hb : F.body = some c) (hn : Nat.blt F.ntmps as.length = false) (run : ∀ C, SRun C T c (entry 0 as) L0 (RetM C T F.results.toList rs L1)) : FunM T g as L0 rs L1 := by
  intro z h vs hsub hwm hok hL
  refine callF_of hF hb (by rw [okAll_len hok]; exact hn) ?_
  have s0 : StZ ⟨z, h, blks L0⟩ (entry 0 as) L0 z (argFrame 0 vs .leaf) h :=
    { zle := .refl _, sub := hsub, old := fun _ _ _ => rfl, fr := entry_ok hok, own := hL, chg := ⟨Nat.le_refl _, fun _ _ _ => rfl, fun _ m1 _ _ => m1, hwm⟩ }
  refine (run ⟨z, h, blks L0⟩ _ _ ⟨z, s0⟩).mono fun e fr h' ⟨he, us, z', γ, h1, h2, h3, h4, h5, h6, h7, h8⟩ => ⟨he, us, h1, us, z', γ, rfl, h2, h8, h3, h4, fun b hb => h5 b hb, h6, h7⟩

/- a closure: its function and what it captured -/
def rClo (g : FuncId) (ps cs : List TE) : Rep Unit :=
  ⟨1, false, fun z xs _ => ∃ us vs, xs = [.func (.func g) us vs] ∧ okAll z ps us ∧ okAll z cs vs, fun _ _ _ h => by obtain ⟨u, v, h, _⟩ := h; rw [h]; rfl,
    fun _ _ _ _ e h => let ⟨u, v, h1, h2, h3⟩ := h; ⟨u, v, h1, okAll_mono e h2, okAll_mono e h3⟩, fun _ => rfl, fun _ _ _ h => by obtain ⟨u, v, h, _⟩ := h; rw [h]; rfl⟩

theorem tv_clo {g : FuncId} {ps cs : List TE} {v : AVal} {x : Unit} (q : TV (rClo g ps cs) z v x) : ∃ us vs, v = .func (.func g) us vs ∧ okAll z ps us ∧ okAll z cs vs := by
  obtain ⟨⟨us, vs, h1, h2, h3⟩, h4⟩ := q
  refine ⟨us, vs, ?_, h2, h3⟩
  cases v <;> simp_all [AVal.isAgg, AVal.cells, rClo]

theorem s_mkclo {g : FuncId} {first captured : Array Operand} {ps cs : List TE} (hw : Want ops Γ true o.guard) (ho : o.op = .makeFunc (.func g) first captured) (hd : o.dst = some t) (h1 : Opds Γ first.toList ps) (h2 : Opds Γ captured.toList cs)
    (r : SOps C T d ops rest ((t, .val (rClo g ps cs) ()) :: Γ) L Q) : SOps C T d ops (o :: rest) Γ L Q := by
  refine s_pure (by rw [ho]; rfl) hw hd (fun z fr h s => ?_) r
  refine ⟨.func (.func g) (first.toList.map fr.op) (captured.toList.map fr.op), by rw [ho]; rfl, ?_⟩
  simp only [TE.ok]
  exact ⟨⟨_, _, rfl, h1.ok s.fr, h2.ok s.fr⟩, rfl⟩

theorem s_callc {c : Call} {x : Operand} {g : FuncId} {ps cs as : List TE} {rs : List RE} {L0 Lr : Own} {L1 : List AVal → Own} (ks js : List Nat) (hf : FunM T g (ps ++ as ++ cs) L0 rs L1) (h0 : picks L ks = L0) (hr : picks L js = Lr) (hn : (ks ++ js).Nodup) (hcst : T.consts.get g = none) (hw : Want ops Γ true o.guard) (ho : o.op = .call c) (hd : o.dst = some t) (hc : c.callee = .value x) (hx : Opd Γ x (.val (rClo g ps cs) ())) (hvs : Opds Γ c.args.toList as)
    (hq : ∀ γ, RQ rs (L1 γ ++ Lr) fun es L' => SOps C T none ops rest ((t, teOf es) :: Γ) L' Q) : SOps C T none ops (o :: rest) Γ L Q := by
  subst h0 hr
  intro fr h ⟨z, s⟩
  obtain ⟨us0, vs0, ev, hp, hcs⟩ := tv_clo (hx.val s.fr)
  have ha : aop T fr.op h o.op = some (.call (.func (.func g) us0 vs0) (c.args.toList.map fr.op)) := by rw [ho]; simp only [aop, opCall, hc, ev]
  simp only [wX, hw.ok s.fr, ha, hd, put_some]
  refine callV_func hcst ?_
  refine (hf z h _ s.sub s.chg.ok (okAll_append (okAll_append hp (hvs.ok s.fr)) hcs) (s.lent (List.nodup_append.1 hn).1)).mono fun r h' ⟨us, z', γ, e1, hl, q, hz, hs, hold, hok, hown⟩ => ⟨packed us, e1, ?_⟩
  have s' := s.afterM (js := js) hn q hz hs hold hown
  rw [List.append_assoc] at s'
  exact (hq γ).at hl _ _ ⟨z', s'.set (teOf_ok hl hok)⟩

end
end Go.Ai.Sx
