/- An abstract interpreter for the model's code: regions as propositions that simplification unfolds. -/
import Derived.Test.YtpiblfbidgcjaaaAiWm
import Derived.Test.YtpiblfbidgcjaaaAiLay
namespace Go.Ai

theorem CallV.mono {T : Tab} {f : AVal} {vs : List AVal} {h : AHeap} {Q Q' : CRes → AHeap → Prop} (c : CallV T f vs h Q) (hq : ∀ r h', Q r h' → Q' r h') : CallV T f vs h Q' :=
  let ⟨n, r, h', a, b⟩ := c; ⟨n, r, h', a, hq _ _ b⟩
theorem CallF.mono {T : Tab} {f : FuncId} {vs : List AVal} {h : AHeap} {Q Q' : CRes → AHeap → Prop} (c : CallF T f vs h Q) (hq : ∀ r h', Q r h' → Q' r h') : CallF T f vs h Q' :=
  let ⟨n, r, h', a, b⟩ := c; ⟨n, r, h', a, hq _ _ b⟩

/- a region in the order of the text -/
def wOps (T : Tab) (ops : List Oper) : List Oper → AFrame → AHeap → (AExit → AFrame → AHeap → Prop) → Prop
  | [], fr, h, Q => Q .normal fr h
  | o :: rest, fr, h, Q =>
    match awanted ops fr o.guard with
    | some true => (match aop T fr.op h o.op with
      | some (.val v h') => wOps T ops rest (putDst fr o.dst v) h' Q
      | some (.call f vs) => CallV T f vs h fun r h' => ∃ v, r = .ret v ∧ wOps T ops rest (putDst fr o.dst v) h' Q
      | none => False)
    | some false => wOps T ops rest (putDst fr o.dst unit) h Q
    | none => False

theorem ops_of {T : Tab} {ops : List Oper} : ∀ {rest : List Oper} {fr : AFrame} {h : AHeap} {Q : AExit → AFrame → AHeap → Prop}, wOps T ops rest fr h Q → Ops T ops rest fr h Q
  | [], _, _, _, w => ops_nil w
  | o :: rest, fr, h, Q, w => by
    simp only [wOps] at w
    split at w
    · rename_i hw
      split at w
      · rename_i ha; exact ops_val hw ha (ops_of w)
      · rename_i ha; exact ops_call hw ha (w.mono fun r h' ⟨v, e, w⟩ => ⟨v, e, ops_of w⟩)
      · exact w.elim
    · rename_i hw; exact ops_skip hw (ops_of w)
    · exact w.elim

/- a region that draws its order, and writes nothing old -/
def noWrite : Op → Bool
  | .store _ _ _ | .mapUpdate _ _ _ _ | .insert _ _ _ _ => false
  | .call c => (match c.callee with | .builtin .append | .builtin .copy => false | _ => true)
  | _ => true

def wDraw (T : Tab) (ops : List Oper) : List Oper → AFrame → AHeap → (AFrame → AHeap → Prop) → Prop
  | [], fr, h, Q => Q fr h
  | o :: rest, fr, h, Q =>
    match awanted ops fr o.guard with
    | some true => (match aop T fr.op h o.op with
      | some (.val v h') => wDraw T ops rest (putDst fr o.dst v) h' Q
      | some (.call f vs) => CallV T f vs (lay h h.next) fun r h1 => ∃ v, r = .ret v ∧ Quiet (lay h h.next) h1 ∧ wDraw T ops rest (putDst fr o.dst v) (lay h1 (min h.wm h1.wm)) Q
      | none => False)
    | some false => wDraw T ops rest (putDst fr o.dst unit) h Q
    | none => False

theorem apart_quiet {a b : Foot} (ha : a.wr = []) (ha' : a.wall = false) (hb : b.wr = []) (hb' : b.wall = false) : a.apart b = true := by
  have e : ∀ l, disj l [] = true := by intro l; simp [disj]
  have e2 : ∀ l, disj [] l = true := by intro l; rfl
  unfold Foot.apart
  rw [ha, ha', hb, hb']
  simp [e, e2]

theorem noWrite_foot {ev : Operand → AVal} {o : Oper} (h : noWrite o.op = true) : (foot ev o).wr = [] ∧ (foot ev o).wall = false := by
  unfold foot
  cases ho : o.op <;> rw [ho] at h <;> simp only [noWrite] at h <;> (try (cases h; done)) <;> (try exact ⟨rfl, rfl⟩)
  rename_i c
  cases hc : c.callee with
  | value f => simp only [hc]; simp
  | invoke r m => simp only [hc]; simp
  | builtin b => rw [hc] at h; cases b <;> simp at h <;> simp [hc]

theorem footsOk_quiet {ops : List Oper} {i : Nat} {f : Foot} {done : List (Nat × Foot)} (hd : ∀ p ∈ done, p.2.wr = [] ∧ p.2.wall = false) (hf : f.wr = []) (hf' : f.wall = false) : footsOk ops i f done = true := by
  unfold footsOk
  rw [if_pos (List.all_eq_true.2 fun p hp => apart_quiet (hd p hp).1 (hd p hp).2 hf hf')]

theorem draw_of {T : Tab} {ops : List Oper} : ∀ {rest : List Oper} {i : Nat} {done : List (Nat × Foot)} {fr : AFrame} {h : AHeap} {Q : AFrame → AHeap → Prop}, rest.all (fun o => noWrite o.op) = true → (∀ p ∈ done, p.2.wr = [] ∧ p.2.wall = false) → h.wm ≤ h.next →
    wDraw T ops rest fr h Q → Draw T ops rest i done fr h Q
  | [], _, _, _, _, _, _, _, _, w => draw_nil w
  | o :: rest, i, done, fr, h, Q, hno, hd, hwm, w => by
    rw [List.all_cons, Bool.and_eq_true] at hno
    simp only [wDraw] at w
    split at w
    · rename_i hw
      split at w
      · rename_i v h' ha
        obtain ⟨f1, f2⟩ := noWrite_foot (ev := fr.op) hno.1
        refine draw_op hw ha hwm rfl (footsOk_quiet hd f1 f2) (draw_of hno.2 ?_ ?_ w)
        · intro p hp
          rcases List.mem_cons.1 hp with rfl | hp
          · exact ⟨f1, f2⟩
          · exact hd p hp
        · have := aop_keeps ha
          exact Nat.le_trans this.2.1 (Nat.le_trans hwm this.1)
      · rename_i ha
        refine draw_call hw ha hwm (footsOk_quiet hd rfl rfl) (w.mono fun r h1 ⟨v, e, q, w⟩ => ⟨v, e, q, draw_of hno.2 ?_ ?_ w⟩)
        · intro p hp
          rcases List.mem_cons.1 hp with rfl | hp
          · exact ⟨rfl, rfl⟩
          · exact hd p hp
        · exact (Quiet.back hwm q).ok hwm
      · exact w.elim
    · rename_i hw; exact draw_skip hw (draw_of hno.2 hd hwm w)
    · exact w.elim

theorem run_draw_of {T : Tab} {id : Nat} {ops : Array Oper} {fr : AFrame} {h : AHeap} {Q : AExit → AFrame → AHeap → Prop} (hno : ops.toList.all (fun o => noWrite o.op) = true) (hwm : h.wm ≤ h.next) (w : wDraw T ops.toList ops.toList fr h (Q .normal)) : Run T (.region id ops true) fr h Q :=
  run_draw (draw_of hno (fun _ hp => by cases hp) hwm w)

theorem run_region_of {T : Tab} {id : Nat} {ops : Array Oper} {fr : AFrame} {h : AHeap} {Q : AExit → AFrame → AHeap → Prop} (w : wOps T ops.toList ops.toList fr h Q) : Run T (.region id ops false) fr h Q :=
  run_region (ops_of w)

/- calls -/
theorem callF_of {T : Tab} {g : FuncId} {F : Func} {c : Code} {vs : List AVal} {h : AHeap} {Q : CRes → AHeap → Prop} (hF : T.funcs.get g = some F) (hb : F.body = some c) (hn : Nat.blt F.ntmps vs.length = false)
    (r : Run T c (argFrame 0 vs .leaf) h fun e fr h' => (e = .normal ∨ e = .ret) ∧ ∃ us, aresults T F.results.toList fr h' = some us ∧ Q (.ret (packed us)) h') : CallF T g vs h Q := by
  obtain ⟨n, e, fr, h', h1, h2, us, h3, h4⟩ := r
  refine ⟨n, _, h', ?_, h4⟩
  unfold acallFn
  rcases h2 with rfl | rfl <;> simp only [hF, hn, cond_false, hb, h1, h3]

theorem callV_func {T : Tab} {g : FuncId} {a b vs : List AVal} {h : AHeap} {Q : CRes → AHeap → Prop} (hc : T.consts.get g = none) (c : CallF T g (a ++ vs ++ b) h Q) : CallV T (.func (.func g) a b) vs h Q := by
  obtain ⟨n, r, h', h1, h2⟩ := c
  refine ⟨n, r, h', ?_, h2⟩
  simp only [acall, hc]
  exact h1

theorem callV_const {T : Tab} {g : FuncId} {v : AVal} {h : AHeap} {Q : CRes → AHeap → Prop} (hc : T.consts.get g = some v) (q : Q (.ret v) h) : CallV T (.func (.func g) [] []) [] h Q :=
  ⟨0, _, h, by simp only [acall, hc], q⟩

theorem op_tmp (fr : AFrame) (t : Nat) : fr.op (.tmp t) = fr.ev t := rfl
theorem op_int (fr : AFrame) (k : IntKind) (n : Int) : fr.op (.const (.int k n)) = .int k n := rfl
theorem op_bool (fr : AFrame) (b : Bool) : fr.op (.const (.bool b)) = .bool b := rfl
theorem op_nils (fr : AFrame) : fr.op (.const (.slice none 0 0)) = .nilslice := rfl
theorem op_fn (fr : AFrame) (f : FuncId) : fr.op (.func f) = .func (.func f) [] [] := rfl
theorem put_some (fr : AFrame) (d : Nat) (v : AVal) : putDst fr (some d) v = Tr.set fr d v := rfl
theorem put_none (fr : AFrame) (v : AVal) : putDst fr none v = fr := rfl
theorem wanted_none (ops : List Oper) (fr : AFrame) : awanted ops fr none = some true := rfl
theorem und_of {T : Tab} {t : TypeId} {i : TInfo} (h : T.types.get t = some i) : T.und t = some i.desc := by unfold Tab.und; rw [h]
theorem optVal_some (h : AHeap) (v : AVal) : optVal h (some v) = some (.val v h) := rfl
theorem optPair_some (p : AVal × AHeap) : optPair (some p) = some (.val p.1 p.2) := rfl
theorem optHeap_some (h : AHeap) : optHeap (some h) = some (.val (.tuple []) h) := rfl
theorem lay_back {h : AHeap} (hwm : h.wm ≤ h.next) : lay (lay h h.next) (min h.wm (lay h h.next).wm) = h := by
  show ({ h with wm := min h.wm h.next } : AHeap) = h
  rw [Nat.min_eq_left hwm]

end Go.Ai
