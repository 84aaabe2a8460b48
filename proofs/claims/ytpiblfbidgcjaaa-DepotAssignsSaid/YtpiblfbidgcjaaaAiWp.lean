/- An abstract interpreter for the model's code: its runs, told by what they come to. -/
import Derived.Test.YtpiblfbidgcjaaaAiSound
namespace Go.Ai

section
variable (T : Tab)

def Run (c : Code) (fr : AFrame) (h : AHeap) (Q : AExit → AFrame → AHeap → Prop) : Prop := ∃ n e fr' h', aexec T n c fr h = some (e, fr', h') ∧ Q e fr' h'
def Ops (ops rest : List Oper) (fr : AFrame) (h : AHeap) (Q : AExit → AFrame → AHeap → Prop) : Prop := ∃ n e fr' h', aops T (acall T (aexec T n)) ops rest fr h = some (e, fr', h') ∧ Q e fr' h'
def Draw (ops rest : List Oper) (i : Nat) (done : List (Nat × Foot)) (fr : AFrame) (h : AHeap) (Q : AFrame → AHeap → Prop) : Prop := ∃ n fr' h', adraw T (acall T (aexec T n)) ops rest i done fr h = some (fr', h') ∧ Q fr' h'
def CallV (f : AVal) (vs : List AVal) (h : AHeap) (Q : CRes → AHeap → Prop) : Prop := ∃ n r h', acall T (aexec T n) f vs h = some (r, h') ∧ Q r h'
def CallF (g : FuncId) (vs : List AVal) (h : AHeap) (Q : CRes → AHeap → Prop) : Prop := ∃ n r h', acallFn T (aexec T n) g vs h = some (r, h') ∧ Q r h'

variable {T}
variable {fr : AFrame} {h : AHeap} {Q : AExit → AFrame → AHeap → Prop}

theorem Run.mono {c : Code} {Q Q' : AExit → AFrame → AHeap → Prop} (r : Run T c fr h Q) (hq : ∀ e fr' h', Q e fr' h' → Q' e fr' h') : Run T c fr h Q' :=
  let ⟨n, e, fr', h', a, b⟩ := r; ⟨n, e, fr', h', a, hq _ _ _ b⟩

theorem run_skip (q : Q .normal fr h) : Run T .skip fr h Q := ⟨1, _, _, _, rfl, q⟩
theorem run_label {l : Nat} (q : Q .normal fr h) : Run T (.label l) fr h Q := ⟨1, _, _, _, rfl, q⟩
theorem run_exit {id : Nat} (q : Q (.exit id) fr h) : Run T (.exit id) fr h Q := ⟨1, _, _, _, rfl, q⟩
theorem run_goto {l : Nat} (q : Q (.goto l) fr h) : Run T (.goto l) fr h Q := ⟨1, _, _, _, rfl, q⟩
theorem run_ret (q : Q .ret fr h) : Run T .ret fr h Q := ⟨1, _, _, _, rfl, q⟩

def SeqK (T : Tab) (b : Code) (Q : AExit → AFrame → AHeap → Prop) (e : AExit) (fr : AFrame) (h : AHeap) : Prop :=
  match e with
  | .normal => Run T b fr h Q
  | e => Q e fr h

theorem run_seq {a b : Code} (r : Run T a fr h (SeqK T b Q)) : Run T (.seq a b) fr h Q := by
  obtain ⟨n, e, fr', h', h1, h2⟩ := r
  cases e with
  | normal =>
    obtain ⟨m, e2, fr2, hh2, h3, h4⟩ := h2
    refine ⟨max n m + 1, e2, fr2, hh2, ?_, h4⟩
    rw [aexec, aexec_le (Nat.le_max_left n m) _ _ _ _ h1]
    exact aexec_le (Nat.le_max_right n m) _ _ _ _ h3
  | exit id => exact ⟨n + 1, _, _, _, by rw [aexec, h1], h2⟩
  | goto l => exact ⟨n + 1, _, _, _, by rw [aexec, h1], h2⟩
  | ret => exact ⟨n + 1, _, _, _, by rw [aexec, h1], h2⟩
  | pan v => exact ⟨n + 1, _, _, _, by rw [aexec, h1], h2⟩

theorem run_cond {c : Operand} {a b : Code} {t : Bool} (hc : fr.op c = .bool t) (r : Run T (if t then a else b) fr h Q) : Run T (.cond c a b) fr h Q := by
  obtain ⟨n, e, fr', h', h1, h2⟩ := r
  exact ⟨n + 1, e, fr', h', by rw [aexec, hc]; exact h1, h2⟩

def BlockK (id : Nat) (Q : AExit → AFrame → AHeap → Prop) (e : AExit) (fr : AFrame) (h : AHeap) : Prop :=
  match e with
  | .exit id' => if id' = id then Q .normal fr h else Q (.exit id') fr h
  | e => Q e fr h

theorem run_block {id : Nat} {c : Code} (r : Run T c fr h (BlockK id Q)) : Run T (.block id c) fr h Q := by
  obtain ⟨n, e, fr', h', h1, h2⟩ := r
  cases e with
  | exit id' =>
    by_cases q : id' = id
    · subst q
      refine ⟨n + 1, .normal, fr', h', by rw [aexec, h1]; simp, by simpa [BlockK] using h2⟩
    · refine ⟨n + 1, .exit id', fr', h', by rw [aexec, h1]; simp [q], by simpa [BlockK, q] using h2⟩
  | normal => exact ⟨n + 1, _, _, _, by rw [aexec, h1], h2⟩
  | goto l => exact ⟨n + 1, _, _, _, by rw [aexec, h1], h2⟩
  | ret => exact ⟨n + 1, _, _, _, by rw [aexec, h1], h2⟩
  | pan v => exact ⟨n + 1, _, _, _, by rw [aexec, h1], h2⟩

theorem run_scope {c : Code} (r : Run T c fr h Q) (hq : ∀ l fr' h', ¬ Q (.goto l) fr' h') : Run T (.scope c) fr h Q := by
  obtain ⟨n, e, fr', h', h1, h2⟩ := r
  cases e with
  | goto l => exact absurd h2 (hq _ _ _)
  | normal => exact ⟨n + 1, _, _, _, by rw [aexec, h1], h2⟩
  | exit l => exact ⟨n + 1, _, _, _, by rw [aexec, h1], h2⟩
  | ret => exact ⟨n + 1, _, _, _, by rw [aexec, h1], h2⟩
  | pan v => exact ⟨n + 1, _, _, _, by rw [aexec, h1], h2⟩

/- a loop: every round that goes on lowers the measure -/
def LoopK (I : Nat → AFrame → AHeap → Prop) (m : Nat) (Q : AExit → AFrame → AHeap → Prop) (e : AExit) (fr : AFrame) (h : AHeap) : Prop :=
  match e with
  | .normal => ∃ m', m' < m ∧ I m' fr h
  | e => Q e fr h

theorem run_loop {c : Code} (I : Nat → AFrame → AHeap → Prop) {m : Nat} (i : I m fr h) (round : ∀ m fr h, I m fr h → Run T c fr h (LoopK I m Q)) : Run T (.loop c) fr h Q := by
  induction m using Nat.strongRecOn generalizing fr h with
  | _ m ih =>
    obtain ⟨n, e, fr', h', h1, h2⟩ := round m fr h i
    cases e with
    | normal =>
      obtain ⟨m', hm, i'⟩ := h2
      obtain ⟨k, e2, fr2, hh2, h3, h4⟩ := ih m' hm i'
      refine ⟨max n k + 1, e2, fr2, hh2, ?_, h4⟩
      rw [aexec, aexec_le (Nat.le_max_left n k) _ _ _ _ h1]
      exact aexec_le (Nat.le_max_right n k) _ _ _ _ h3
    | exit id => exact ⟨n + 1, _, _, _, by rw [aexec, h1], h2⟩
    | goto l => exact ⟨n + 1, _, _, _, by rw [aexec, h1], h2⟩
    | ret => exact ⟨n + 1, _, _, _, by rw [aexec, h1], h2⟩
    | pan v => exact ⟨n + 1, _, _, _, by rw [aexec, h1], h2⟩

/- regions -/
theorem run_region {id : Nat} {ops : Array Oper} (r : Ops T ops.toList ops.toList fr h Q) : Run T (.region id ops false) fr h Q := by
  obtain ⟨n, e, fr', h', h1, h2⟩ := r
  exact ⟨n + 1, e, fr', h', by rw [aexec]; exact h1, h2⟩

theorem run_draw {id : Nat} {ops : Array Oper} (r : Draw T ops.toList ops.toList 0 [] fr h (Q .normal)) : Run T (.region id ops true) fr h Q := by
  obtain ⟨n, fr', h', h1, h2⟩ := r
  exact ⟨n + 1, .normal, fr', h', by rw [aexec]; simp [h1], h2⟩

theorem ops_nil {ops : List Oper} (q : Q .normal fr h) : Ops T ops [] fr h Q := ⟨0, _, _, _, rfl, q⟩

theorem ops_val {ops rest : List Oper} {o : Oper} {v : AVal} {h' : AHeap} (hw : awanted ops fr o.guard = some true) (ha : aop T fr.op h o.op = some (.val v h')) (r : Ops T ops rest (putDst fr o.dst v) h' Q) : Ops T ops (o :: rest) fr h Q := by
  obtain ⟨n, e, fr', h2, h3, h4⟩ := r
  exact ⟨n, e, fr', h2, by simp only [aops, hw, astep, ha]; exact h3, h4⟩

theorem ops_skip {ops rest : List Oper} {o : Oper} (hw : awanted ops fr o.guard = some false) (r : Ops T ops rest (putDst fr o.dst unit) h Q) : Ops T ops (o :: rest) fr h Q := by
  obtain ⟨n, e, fr', h2, h3, h4⟩ := r
  exact ⟨n, e, fr', h2, by simp only [aops, hw]; exact h3, h4⟩

theorem ops_call {ops rest : List Oper} {o : Oper} {f : AVal} {vs : List AVal} (hw : awanted ops fr o.guard = some true) (ha : aop T fr.op h o.op = some (.call f vs))
    (r : CallV T f vs h fun r h' => ∃ v, r = .ret v ∧ Ops T ops rest (putDst fr o.dst v) h' Q) : Ops T ops (o :: rest) fr h Q := by
  obtain ⟨n, r, h1, h2, v, rfl, m, e, fr', h3, h4, h5⟩ := r
  refine ⟨max n m, e, fr', h3, ?_, h5⟩
  have c1 := acall_le (T := T) (aexec_le (Nat.le_max_left n m)) _ _ _ _ h2
  have c2 := aops_le (T := T) (acall_le (aexec_le (Nat.le_max_right n m))) _ _ _ _ h4
  simp only [aops, hw, astep, ha, c1]
  exact c2

theorem wanted_of {ops : List Oper} {j d : Nat} {want b : Bool} (hd : (ops[j]?).bind (fun (o : Oper) => o.dst) = some d) (hv : fr.ev d = .bool b) : awanted ops fr (some (j, want)) = some (b == want) := by
  unfold awanted
  simp only [hd, hv]

/- drawn regions -/
theorem draw_nil {ops : List Oper} {i : Nat} {done : List (Nat × Foot)} {Q : AFrame → AHeap → Prop} (q : Q fr h) : Draw T ops [] i done fr h Q := ⟨0, _, _, rfl, q⟩

theorem draw_skip {ops rest : List Oper} {o : Oper} {i : Nat} {done : List (Nat × Foot)} {Q : AFrame → AHeap → Prop} (hw : awanted ops fr o.guard = some false) (r : Draw T ops rest (i + 1) done (putDst fr o.dst unit) h Q) : Draw T ops (o :: rest) i done fr h Q := by
  obtain ⟨n, fr', h2, h3, h4⟩ := r
  exact ⟨n, fr', h2, by simp only [adraw, hw]; exact h3, h4⟩

theorem draw_val {ops rest : List Oper} {o : Oper} {i : Nat} {done : List (Nat × Foot)} {Q : AFrame → AHeap → Prop} {v : AVal} {h' : AHeap} {f : Foot} (hw : awanted ops fr o.guard = some true) (ha : aop T fr.op { h with wm := h.next } o.op = some (.val v h'))
    (hf : foot fr.op o = f) (hr : f.rall = false) (hk : footsOk ops i f done = true) (r : Draw T ops rest (i + 1) ((i, f) :: done) (putDst fr o.dst v) { h' with wm := min h.wm h'.wm } Q) : Draw T ops (o :: rest) i done fr h Q := by
  obtain ⟨n, fr', h2, h3, h4⟩ := r
  refine ⟨n, fr', h2, ?_, h4⟩
  have e : footOf (foot fr.op o) h h' = f := by rw [hf]; unfold footOf; rw [hr]; rfl
  simp only [adraw, hw, astep, ha, e, hk, cond_true]
  exact h3


end

end Go.Ai
