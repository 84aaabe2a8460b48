/- An abstract interpreter for the model's code: regions in the order of the text, control, calls, ranges over functions. -/
import Derived.Test.YtpiblfbidgcjaaaAiOps5
import Derived.Calls
namespace Go.Ai

/- a running frame -/
def fat (fn : FuncId) (kind : CallKind) (rnd : Option Nat) (tmps : Array Value) (ds : List Deferred) (todo : List Item) : Frame :=
  { fn, tmps, todo, defers := ds, mode := .run, kind, roundOf := rnd }

def evT (tmps : Array Value) : Operand → Value
  | .tmp t => tmps.getD t undef
  | .const v => v
  | .global g => .pointer (some ⟨g, 0, none⟩)
  | .func f => .func (.func f) #[] #[]

theorem fat_eval (fn : FuncId) (kind : CallKind) (rnd : Option Nat) (tmps : Array Value) (ds : List Deferred) (todo : List Item) : (fat fn kind rnd tmps ds todo).eval = evT tmps := by
  funext x; cases x <;> rfl

def putT (tmps : Array Value) (dst : Option Nat) (v : Value) : Array Value :=
  match dst with
  | some d => tmps.setIfInBounds d v
  | none => tmps

theorem size_putT (tmps : Array Value) (dst : Option Nat) (v : Value) : (putT tmps dst v).size = tmps.size := by cases dst <;> simp [putT]

section moves
variable {P : Program} {fn : FuncId} {kind : CallKind} {rnd : Option Nat} {tmps : Array Value} {ds : List Deferred} {k : List Item} {cs : List Frame} {w : World}

theorem st_skip : step P (lone (fat fn kind rnd tmps ds (.code .skip :: k)) cs w) = .next (lone (fat fn kind rnd tmps ds k) cs w) := step_lone_go (by simp [stepG, stepG.exec, fat])
theorem st_label {l : Nat} : step P (lone (fat fn kind rnd tmps ds (.code (.label l) :: k)) cs w) = .next (lone (fat fn kind rnd tmps ds k) cs w) := step_lone_go (by simp [stepG, stepG.exec, fat])
theorem st_inBlock {id : Nat} : step P (lone (fat fn kind rnd tmps ds (.inBlock id :: k)) cs w) = .next (lone (fat fn kind rnd tmps ds k) cs w) := step_lone_go (by simp [stepG, stepG.exec, fat])
theorem st_inScope {c : Code} : step P (lone (fat fn kind rnd tmps ds (.inScope c :: k)) cs w) = .next (lone (fat fn kind rnd tmps ds k) cs w) := step_lone_go (by simp [stepG, stepG.exec, fat])
theorem st_seq {x y : Code} : step P (lone (fat fn kind rnd tmps ds (.code (.seq x y) :: k)) cs w) = .next (lone (fat fn kind rnd tmps ds (.code x :: .code y :: k)) cs w) := step_lone_go (by simp [stepG, stepG.exec, fat])
theorem st_cond {c : Operand} {x y : Code} {t : Bool} (h : evT tmps c = .bool t) :
    step P (lone (fat fn kind rnd tmps ds (.code (.cond c x y) :: k)) cs w) = .next (lone (fat fn kind rnd tmps ds (.code (if t then x else y) :: k)) cs w) :=
  step_lone_go (by
    have := congrFun (fat_eval fn kind rnd tmps ds (.code (.cond c x y) :: k)) c
    simp only [fat] at this
    simp [stepG, stepG.exec, fat, this, h])
theorem st_block {id : Nat} {c : Code} : step P (lone (fat fn kind rnd tmps ds (.code (.block id c) :: k)) cs w) = .next (lone (fat fn kind rnd tmps ds (.code c :: .inBlock id :: k)) cs w) := step_lone_go (by simp [stepG, stepG.exec, fat])
theorem st_loop {c : Code} : step P (lone (fat fn kind rnd tmps ds (.code (.loop c) :: k)) cs w) = .next (lone (fat fn kind rnd tmps ds (.code c :: .inLoop c :: k)) cs w) := step_lone_go (by simp [stepG, stepG.exec, fat])
theorem st_inLoop {c : Code} : step P (lone (fat fn kind rnd tmps ds (.inLoop c :: k)) cs w) = .next (lone (fat fn kind rnd tmps ds (.code c :: .inLoop c :: k)) cs w) := step_lone_go (by simp [stepG, stepG.exec, fat])
theorem st_scope {c : Code} : step P (lone (fat fn kind rnd tmps ds (.code (.scope c) :: k)) cs w) = .next (lone (fat fn kind rnd tmps ds (.code c :: .inScope c :: k)) cs w) := step_lone_go (by simp [stepG, stepG.exec, fat])
theorem st_exit {id : Nat} {k' : List Item} (h : exitTo id k = some k') : step P (lone (fat fn kind rnd tmps ds (.code (.exit id) :: k)) cs w) = .next (lone (fat fn kind rnd tmps ds k') cs w) := step_lone_go (by simp [stepG, stepG.exec, fat, h])
theorem st_region {id : Nat} {ops : Array Oper} : step P (lone (fat fn kind rnd tmps ds (.code (.region id ops false) :: k)) cs w) = .next (lone (fat fn kind rnd tmps ds (.inRegion ops (List.range ops.size) :: k)) cs w) := step_lone_go (by simp [stepG, stepG.exec, fat])
theorem st_draw {id : Nat} {ops : Array Oper} : step P (lone (fat fn kind rnd tmps ds (.code (.region id ops true) :: k)) cs w) =
    .next (lone (fat fn kind rnd tmps ds (.inRegion ops (Region.schedule (P.follows .mixedOrders) ops (w.tape w.drawn (.order fn id))) :: k)) cs { w with drawn := w.drawn + 1 }) :=
  step_lone_go (by simp [stepG, stepG.exec, fat, choose, Sem.run, Question.forced, Question.cut])
theorem st_region_end {ops : Array Oper} : step P (lone (fat fn kind rnd tmps ds (.inRegion ops [] :: k)) cs w) = .next (lone (fat fn kind rnd tmps ds k) cs w) := step_lone_go (by simp [stepG, stepG.exec, fat])

theorem fat_finish {ops : Array Oper} {i : Nat} {is : List Nat} (v : Value) : (fat fn kind rnd tmps ds (.inRegion ops (i :: is) :: k)).finish v = fat fn kind rnd (putT tmps ((ops[i]?).bind (·.dst)) v) ds (.inRegion ops is :: k) := by
  cases h : (ops[i]?).bind (·.dst) <;> simp [Frame.finish, fat, putT, h]

theorem st_op_skip {ops : Array Oper} {i : Nat} {is : List Nat} (h : ((ops[i]?).map (Region.wanted · (yielded ops tmps))).getD false = false) :
    step P (lone (fat fn kind rnd tmps ds (.inRegion ops (i :: is) :: k)) cs w) = .next (lone (fat fn kind rnd (putT tmps ((ops[i]?).bind (·.dst)) undef) ds (.inRegion ops is :: k)) cs w) := by
  rw [← fat_finish]
  exact step_lone_go (by simp [stepG, stepG.exec, fat, h])

theorem stG_op {ops : Array Oper} {i : Nat} {is : List Nat} {o : Oper} (ho : ops[i]? = some o) (hw : Region.wanted o (yielded ops tmps) = true) (hs : opServed o.op = true) :
    stepG P true { frame := fat fn kind rnd tmps ds (.inRegion ops (i :: is) :: k), callers := cs, status := .running, dying := none } w =
      stepG.apply P true (fat fn kind rnd tmps ds (.inRegion ops (i :: is) :: k)) cs none (execOp (evT tmps) o) w := by
  have he := fat_eval fn kind rnd tmps ds (.inRegion ops (i :: is) :: k)
  simp only [fat] at he
  simp only [stepG, stepG.exec, stepG.oper, Frame.oper?, fat, ho, Option.map_some, Option.getD_some, hw, if_true, he]
  split
  · rename_i h1 h2
    rw [h2] at hs
    simp [opServed] at hs
  · rfl

theorem st_op_value {ops : Array Oper} {i : Nat} {is : List Nat} {o : Oper} {nx : Next} {v : Value} {w' : World} (ho : ops[i]? = some o) (hw : Region.wanted o (yielded ops tmps) = true) (hs : opServed o.op = true)
    (hr : (execOp (evT tmps) o).run P w = .ok nx w') (hnx : nx = .value v ∨ (nx = .skip ∧ v = undef)) :
    step P (lone (fat fn kind rnd tmps ds (.inRegion ops (i :: is) :: k)) cs w) = .next (lone (fat fn kind rnd (putT tmps o.dst v) ds (.inRegion ops is :: k)) cs w') := by
  have hf := fat_finish (fn := fn) (kind := kind) (rnd := rnd) (tmps := tmps) (ds := ds) (k := k) (ops := ops) (i := i) (is := is) v
  rw [ho] at hf
  simp only [Option.bind_some] at hf
  refine step_lone_go ?_
  rw [stG_op ho hw hs, ← hf]
  rcases hnx with rfl | ⟨rfl, rfl⟩ <;> simp [stepG.apply, hr]

/- a call: the callee's first frame -/
def startOf (P : Program) : Next → Option Frame
  | .enter f args => some (Frame.enter P f args .normal)
  | .round l f tmps a b => some (Frame.round l f tmps a b .normal)
  | _ => none

theorem st_op_call {ops : Array Oper} {i : Nat} {is : List Nat} {o : Oper} {nx : Next} {s : Frame} {w' : World} (ho : ops[i]? = some o) (hw : Region.wanted o (yielded ops tmps) = true) (hs : opServed o.op = true)
    (hr : (execOp (evT tmps) o).run P w = .ok nx w') (hnx : startOf P nx = some s) :
    step P (lone (fat fn kind rnd tmps ds (.inRegion ops (i :: is) :: k)) cs w) = .next (lone s (fat fn kind rnd tmps ds (.inRegion ops (i :: is) :: k) :: cs) w') := by
  refine step_lone_go ?_
  rw [stG_op ho hw hs]
  cases nx <;> simp [startOf] at hnx <;> subst hnx <;> simp [stepG.apply, hr, fat]

end moves

/- the deferred calls that a range over a function leaves: nobody has deferred anything -/
def DsOk (ds : List Deferred) (w : World) : Prop :=
  ∀ d ∈ ds, ∃ r, d = { target := .collected r, args := #[] } ∧ w.heap[r]? = some (.deferred (some []))
def DsNodup (ds : List Deferred) : Prop := ds.Pairwise fun d d' => d ≠ d'

theorem H0.notMarker {base : Nat} {ρ : Emb} {h : AHeap} {w : World} (hr : H0 base ρ h w) {b : Nat} {l : Loc} (hb : ρ b = some l) (ha : Alive h b) {r : Nat} {x : Option (List Deferred)} (hm : w.heap[r]? = some (.deferred x)) : l.c ≠ r := by
  rintro rfl
  have hblk := hr.blk b l hb
  unfold Alive at ha
  cases hg : h.get b with
  | none => rw [hg] at ha; exact ha
  | some y =>
    rw [hg] at ha hblk
    cases y with
    | arr cells ro => obtain ⟨cc, el, fz, h1, _⟩ := hblk; rw [hm] at h1; cases h1
    | mp es => obtain ⟨_, ces, clk, h1, _⟩ := hblk; rw [hm] at h1; cases h1
    | loop L => obtain ⟨_, L', h1, _⟩ := hblk; rw [hm] at h1; cases h1
    | dead => exact ha

theorem DsOk.trans {base : Nat} {ρ ρ' : Emb} {h h' : AHeap} {w w' : World} {ds : List Deferred} (hr : HRel base ρ h w) (t : Trans ρ h w ρ' h' w') (hd : DsOk ds w) : DsOk ds w' := by
  intro d hd'
  obtain ⟨r, h1, h2⟩ := hd d hd'
  refine ⟨r, h1, ?_⟩
  have hlt : r < w.heap.size := (Array.getElem?_eq_some_iff.1 h2).1
  rw [t.frame r hlt (fun b l hb ho => hr.notMarker hb ho.alive h2)]
  exact h2

def RndOk (ρ : Emb) (h : AHeap) (rnd : Option Nat) : Prop := ∀ l', rnd = some l' → ∃ la loc L, ρ la = some loc ∧ loc.c = l' ∧ h.get la = some (.loop L)

theorem RndOk.trans {ρ ρ' : Emb} {h h' : AHeap} {w w' : World} {rnd : Option Nat} (hr : RndOk ρ h rnd) (t : Trans ρ h w ρ' h' w') : RndOk ρ' h' rnd := by
  intro l' e
  obtain ⟨la, loc, L, h1, h2, h3⟩ := hr l' e
  obtain ⟨L', h4, _⟩ := t.loops la loc L h1 h3
  exact ⟨la, loc, L', t.ext _ _ h1, h2, h4⟩

/- the exits -/
inductive CExit where
  | normal
  | exit (id : Nat)
  | goto (l : Nat)
  | ret
  | pan (v : Value)

def ERel (ρ : Emb) : AExit → CExit → Prop
  | .normal, .normal => True
  | .exit a, .exit b => a = b
  | .goto a, .goto b => a = b
  | .ret, .ret => True
  | .pan v, .pan v' => VRel ρ v v'
  | _, _ => False

def notCall : List Item → Bool
  | .call _ _ _ _ :: _ => false
  | _ => true

def Lands (P : Program) (m : Machine) (fn : FuncId) (kind : CallKind) (rnd : Option Nat) (k : List Item) (cs : List Frame) (e : CExit) (tmps : Array Value) (ds : List Deferred) (w : World) : Prop :=
  match e with
  | .normal => Steps P m (lone (fat fn kind rnd tmps ds k) cs w)
  | .exit id => ∃ k2, exitTo id k2 = exitTo id k ∧ Steps P m (lone (fat fn kind rnd tmps ds (.code (.exit id) :: k2)) cs w)
  | .goto l => ∃ k2, gotoIn l k2 = gotoIn l k ∧ Steps P m (lone (fat fn kind rnd tmps ds (.code (.goto l) :: k2)) cs w)
  | .ret => ∃ k2, Steps P m (lone (fat fn kind rnd tmps ds (.code .ret :: k2)) cs w)
  | .pan v => ∃ k2, notCall k2 = true ∧ Steps P m (lone { fat fn kind rnd tmps ds k2 with mode := .panicking [{ v, recovered := false }] } cs w)

theorem Lands.of_steps {P : Program} {m m₁ : Machine} {fn : FuncId} {kind : CallKind} {rnd : Option Nat} {k : List Item} {cs : List Frame} {e : CExit} {tmps : Array Value} {ds : List Deferred} {w : World}
    (h : Steps P m m₁) (h' : Lands P m₁ fn kind rnd k cs e tmps ds w) : Lands P m fn kind rnd k cs e tmps ds w := by
  cases e with
  | normal => exact h.trans h'
  | exit id => obtain ⟨k2, a, b⟩ := h'; exact ⟨k2, a, h.trans b⟩
  | goto l => obtain ⟨k2, a, b⟩ := h'; exact ⟨k2, a, h.trans b⟩
  | ret => obtain ⟨k2, b⟩ := h'; exact ⟨k2, h.trans b⟩
  | pan v => obtain ⟨k2, a, b⟩ := h'; exact ⟨k2, a, h.trans b⟩

/- an item that no jump stops at -/
theorem Lands.pass {P : Program} {m : Machine} {fn : FuncId} {kind : CallKind} {rnd : Option Nat} {x : Item} {k : List Item} {cs : List Frame} {e : CExit} {tmps : Array Value} {ds : List Deferred} {w : World}
    (hx : x.plain = true) (he : e ≠ .normal) (h : Lands P m fn kind rnd (x :: k) cs e tmps ds w) : Lands P m fn kind rnd k cs e tmps ds w := by
  cases e with
  | normal => exact absurd rfl he
  | exit id => obtain ⟨k2, a, b⟩ := h; exact ⟨k2, by rw [a]; cases x <;> simp_all [exitTo, Item.plain], b⟩
  | goto l => obtain ⟨k2, a, b⟩ := h; exact ⟨k2, by rw [a]; cases x <;> simp_all [gotoIn, Item.plain], b⟩
  | ret => exact h
  | pan v => exact h

/- what a piece of code comes to -/
structure Post (base : Nat) (ρ : Emb) (h : AHeap) (w : World) (ds : List Deferred) (n : Nat) (e : AExit) (fr' : AFrame) (h' : AHeap) (e' : CExit) (tmps' : Array Value) (ds' : List Deferred) (w' : World) (ρ' : Emb) : Prop where
  exit : ERel ρ' e e'
  size : tmps'.size = n
  frame : FRel ρ' fr' tmps'
  heap : HRel base ρ' h' w'
  trans : Trans ρ h w ρ' h' w'
  dsok : DsOk ds' w'
  dsnew : ∃ news, ds' = news ++ ds ∧ ∀ d ∈ news, ∀ r, d = { target := .collected r, args := #[] } → w.heap.size ≤ r
  dsnd : DsNodup ds'

structure Pre (base : Nat) (ρ : Emb) (h : AHeap) (w : World) (ds : List Deferred) (rnd : Option Nat) (n : Nat) (fr : AFrame) (tmps : Array Value) : Prop where
  size : tmps.size = n
  frame : FRel ρ fr tmps
  heap : HRel base ρ h w
  dsok : DsOk ds w
  dsnd : DsNodup ds
  rndok : RndOk ρ h rnd
  norm : rnd = none ∨ ds = []

theorem Pre.post {base : Nat} {ρ ρ' : Emb} {h h' : AHeap} {w w' : World} {ds ds' : List Deferred} {rnd : Option Nat} {n : Nat} {fr fr' : AFrame} {tmps tmps' : Array Value} {e : AExit} {e' : CExit}
    (p : Pre base ρ h w ds rnd n fr tmps) (q : Post base ρ h w ds n e fr' h' e' tmps' ds' w' ρ') (hn : rnd = none ∨ ds' = []) : Pre base ρ' h' w' ds' rnd n fr' tmps' :=
  ⟨q.size, q.frame, q.heap, q.dsok, q.dsnd, p.rndok.trans q.trans, hn⟩

theorem Post.andThen {base : Nat} {ρ ρ₁ ρ₂ : Emb} {h h₁ h₂ : AHeap} {w w₁ w₂ : World} {ds ds₁ ds₂ : List Deferred} {n : Nat} {e e1 : AExit} {fr₁ fr₂ : AFrame} {e' e1' : CExit} {tmps₁ tmps₂ : Array Value}
    (a : Post base ρ h w ds n e1 fr₁ h₁ e1' tmps₁ ds₁ w₁ ρ₁) (b : Post base ρ₁ h₁ w₁ ds₁ n e fr₂ h₂ e' tmps₂ ds₂ w₂ ρ₂) : Post base ρ h w ds n e fr₂ h₂ e' tmps₂ ds₂ w₂ ρ₂ := by
  obtain ⟨n1, e1, h1⟩ := a.dsnew
  obtain ⟨n2, e2, h2⟩ := b.dsnew
  refine ⟨b.exit, b.size, b.frame, b.heap, a.trans.trans b.trans, b.dsok, ⟨n2 ++ n1, by rw [e2, e1, List.append_assoc], ?_⟩, b.dsnd⟩
  intro d hd r hr
  rcases List.mem_append.1 hd with hd | hd
  · exact Nat.le_trans a.trans.size (h2 d hd r hr)
  · exact h1 d hd r hr

/- how a piece of code stands at the head of what is to do -/
def Heads (c : Code) (x : Item) : Prop := x = .code c ∨ ∃ c', c = .loop c' ∧ x = .inLoop c'

def RunOk (P : Program) (base : Nat) (run : Runner) : Prop :=
  ∀ (c : Code) (fr : AFrame) (h : AHeap) (e : AExit) (fr' : AFrame) (h' : AHeap), run c fr h = some (e, fr', h') →
    ∀ (n : Nat), codeOk n c = true → ∀ (ρ : Emb) (w : World) (ds : List Deferred) (rnd : Option Nat) (tmps : Array Value), Pre base ρ h w ds rnd n fr tmps →
      ∀ (fn : FuncId) (kind : CallKind) (k : List Item) (cs : List Frame) (x : Item), Heads c x → ∃ e' tmps' ds' w' ρ', Post base ρ h w ds n e fr' h' e' tmps' ds' w' ρ' ∧ (rnd = none ∨ ds' = []) ∧
        Lands P (lone (fat fn kind rnd tmps ds (x :: k)) cs w) fn kind rnd k cs e' tmps' ds' w'

inductive CEnd where
  | ret (v : Value)
  | pan (v : Value)

def EndRel (ρ : Emb) : CRes → CEnd → Prop
  | .ret v, .ret v' => VRel ρ v v'
  | .pan v, .pan v' => VRel ρ v v'
  | _, _ => False

def CEnd.frame (c : Frame) : CEnd → Frame
  | .ret v => c.finish v
  | .pan v => c.raise [{ v, recovered := false }]

def CallOk (P : Program) (base : Nat) (call : Caller) : Prop :=
  ∀ (f : AVal) (args : List AVal) (h : AHeap) (r : CRes) (h' : AHeap), call f args h = some (r, h') →
    ∀ (ρ : Emb) (w : World) (f' : Value) (args' : Array Value), VRel ρ f f' → LRel ρ args args'.toList → HRel base ρ h w →
      ∃ nx s, (do let d ← Deferred.ofValue f' args'; invoke d.target d.args : Sem Next).run P w = .ok nx w ∧ startOf P nx = some s ∧
        ∀ (c : Frame) (cs : List Frame), ∃ r' w' ρ', EndRel ρ' r r' ∧ HRel base ρ' h' w' ∧ Trans ρ h w ρ' h' w' ∧ Steps P (lone s (c :: cs) w) (lone (r'.frame c) cs w')

/- constants and slots -/
theorem op_rel {ρ : Emb} {fr : AFrame} {tmps : Array Value} (hf : FRel ρ fr tmps) (x : Operand) : VRel ρ (fr.op x) (evT tmps x) := by
  cases x with
  | tmp t => exact hf t
  | const v =>
    show VRel ρ ((ofVal v).getD .undef) v
    cases h : ofVal v with
    | none => exact .undef v
    | some y => exact ofVal_rel ρ v y h
  | global g => exact .undef _
  | func f => exact .func _ _ [] [] #[] #[] (.inr ⟨f, rfl, rfl⟩) rfl rfl (by simp) (by simp)

theorem FRel.putDst {ρ : Emb} {fr : AFrame} {tmps : Array Value} {dst : Option Nat} {v : AVal} {v' : Value} (h : FRel ρ fr tmps) (hd : ∀ d, dst = some d → d < tmps.size) (hv : VRel ρ v v') : FRel ρ (putDst fr dst v) (putT tmps dst v') := by
  cases dst with
  | none => exact h
  | some d => exact h.put (hd d rfl) hv

theorem wanted_ok {ρ : Emb} {fr : AFrame} {tmps : Array Value} {ops : Array Oper} {o : Oper} {b : Bool} (hf : FRel ρ fr tmps) (hsz : ∀ o ∈ ops.toList, ∀ d, o.dst = some d → d < tmps.size) (hl : awanted ops.toList fr o.guard = some b) : Region.wanted o (yielded ops tmps) = b := by
  unfold awanted at hl
  unfold Region.wanted
  split at hl
  · rename_i hg; simp at hl; subst hl; simp [hg]
  · rename_i j want hg
    simp only [hg]
    unfold yielded
    rw [Array.getElem?_toList] at hl
    cases hd : (ops[j]?).bind (fun o => o.dst) with
    | none => rw [hd] at hl; simp at hl; subst hl; simp
    | some d =>
      rw [hd] at hl
      simp only at hl
      have hlt : d < tmps.size := by
        cases ho : ops[j]? with
        | none => rw [ho] at hd; cases hd
        | some o' =>
          rw [ho] at hd
          exact hsz o' (by rw [Array.mem_toList_iff]; exact Array.mem_of_getElem? ho) d hd
      have hv := hf d
      have e : tmps.getD d undef = tmps[d] := by simp [Array.getD, hlt]
      rw [e] at hv
      simp only [Option.bind_some, Array.getElem?_eq_getElem hlt]
      generalize tmps[d] = y at hv
      generalize fr.ev d = x at hv hl
      cases hv <;> simp at hl <;> subst hl <;> simp

end Go.Ai
