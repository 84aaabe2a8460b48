/- An abstract interpreter for the model's code: one operation, whatever it is. -/
import Derived.Test.YtpiblfbidgcjaaaAiOps4
namespace Go.Ai

section
variable {T : Tab} {P : Program} (ok : T.Ok P) {base : Nat} {ρ : Emb} {h : AHeap} {w : World}

include ok in
theorem len_ok {argTypes : Array TypeId} {ty t : TypeId} {x v : AVal} {x' : Value} (hr : H0 base ρ h w) (ht : argTypes[0]? = some t) (hx : VRel ρ x x') (hl : alen T t x h = some v) :
    ∃ v', (Builtin.len_ argTypes ty #[x']).run P w = .ok v' w ∧ VRel ρ v v' := by
  unfold alen at hl
  split at hl
  · rename_i hu
    cases hl; cases hx
    exact ⟨_, by simp [Builtin.len_, ht, run_underlying' (ok.und hu), goInt], .int _ _⟩
  · rename_i hu
    cases hl; cases hx
    exact ⟨_, by simp [Builtin.len_, ht, run_underlying' (ok.und hu), goInt], .int _ _⟩
  · rename_i hu
    cases hl
    exact ⟨_, by simp [Builtin.len_, ht, run_underlying' (ok.und hu), goInt], .int _ _⟩
  · rename_i hu
    cases hl; cases hx
    exact ⟨_, by simp [Builtin.len_, ht, run_underlying' (ok.und hu), goInt], .int _ _⟩
  · rename_i r hu
    split at hl
    case h_2 => cases hl
    rename_i es hg
    cases hl
    cases hx with
    | map _ l hb =>
    obtain ⟨_, ces, clk, h1, h2, _⟩ := map_at hr hb hg
    exact ⟨_, by simp [Builtin.len_, ht, run_underlying' (ok.und hu), run_getObj' w l.c ces clk h1, goInt, h2], .int _ _⟩
  · rename_i hu
    cases hl; cases hx
    exact ⟨_, by simp [Builtin.len_, ht, run_underlying' (ok.und hu), goInt], .int _ _⟩
  · cases hl

theorem max_ok {argTypes : Array TypeId} {ty : TypeId} {xs : List AVal} {xs' : Array Value} {v : AVal} (hx : LRel ρ xs xs'.toList) (hl : amax xs = some v) :
    ∃ v', (Builtin.max_ argTypes ty xs').run P w = .ok v' w ∧ VRel ρ v v' := by
  unfold Builtin.max_
  generalize xs'.toList = ys at hx
  unfold amax at hl
  split at hl
  · cases hl
  · rename_i k x rest
    obtain ⟨y, ys', rfl, h1, h2⟩ := hx.cons_inv
    simp only
    clear hx
    generalize hacc : AVal.int k x = acc at hl h1
    have hint : ∃ k x, acc = .int k x := ⟨k, x, hacc.symm⟩
    clear hacc k x
    induction rest generalizing acc y ys' with
    | nil =>
      have := h2.nil_inv
      subst this
      simp at hl
      subst hl
      exact ⟨y, rfl, h1⟩
    | cons r rest ih =>
      obtain ⟨z, ys2, rfl, h3, h4⟩ := h2.cons_inv
      obtain ⟨k, x, rfl⟩ := hint
      cases h1
      rw [List.foldlM_cons] at hl
      cases r <;> simp only [Option.bind_eq_bind, Option.bind_none, Option.bind_some] at hl <;> (try (cases hl; done))
      cases h3
      rw [List.foldlM_cons]
      simp only [Builtin.max2, Sem.run_bind, Sem.run_pure, Result.andThen_ok]
      exact ih _ _ h4 _ hl (.int _ _) ⟨_, _, rfl⟩
  · cases hl

theorem min_ok {argTypes : Array TypeId} {ty : TypeId} {xs : List AVal} {xs' : Array Value} {v : AVal} (hx : LRel ρ xs xs'.toList) (hl : amin xs = some v) :
    ∃ v', (Builtin.min_ argTypes ty xs').run P w = .ok v' w ∧ VRel ρ v v' := by
  unfold Builtin.min_
  generalize xs'.toList = ys at hx
  unfold amin at hl
  split at hl
  · cases hl
  · rename_i k x rest
    obtain ⟨y, ys', rfl, h1, h2⟩ := hx.cons_inv
    simp only
    clear hx
    generalize hacc : AVal.int k x = acc at hl h1
    have hint : ∃ k x, acc = .int k x := ⟨k, x, hacc.symm⟩
    clear hacc k x
    induction rest generalizing acc y ys' with
    | nil =>
      have := h2.nil_inv
      subst this
      simp at hl
      subst hl
      exact ⟨y, rfl, h1⟩
    | cons r rest ih =>
      obtain ⟨z, ys2, rfl, h3, h4⟩ := h2.cons_inv
      obtain ⟨k, x, rfl⟩ := hint
      cases h1
      rw [List.foldlM_cons] at hl
      cases r <;> simp only [Option.bind_eq_bind, Option.bind_none, Option.bind_some] at hl <;> (try (cases hl; done))
      cases h3
      rw [List.foldlM_cons]
      simp only [Builtin.min2, Sem.run_bind, Sem.run_pure, Result.andThen_ok]
      exact ih _ _ h4 _ hl (.int _ _) ⟨_, _, rfl⟩
  · cases hl

/- what an operation comes to -/
def OpOk (P : Program) (base : Nat) (ρ : Emb) (h : AHeap) (w : World) (s : Sem Next) (v : AVal) (h' : AHeap) : Prop :=
  ∃ nx v' w' ρ', s.run P w = .ok nx w' ∧ (nx = .value v' ∨ (nx = .skip ∧ v' = undef)) ∧ VRel ρ' v v' ∧ H0 base ρ' h' w' ∧ Trans ρ h w ρ' h' w'

theorem OpOk.of_V {s : Sem Value} {v : AVal} {h' : AHeap} (hv : VOk P base ρ h w s v h') : OpOk P base ρ h w (do pure (.value (← s)) : Sem Next) v h' := by
  obtain ⟨v', w', ρ', h1, h2, h3, h4⟩ := hv
  exact ⟨.value v', v', w', ρ', by simp [h1], .inl rfl, h2, h3, h4⟩

theorem OpOk.of_pure {s : Sem Value} {v : AVal} (hr : H0 base ρ h w) (hv : ∃ v', s.run P w = .ok v' w ∧ VRel ρ v v') : OpOk P base ρ h w (do pure (.value (← s)) : Sem Next) v h := by
  obtain ⟨v', h1, h2⟩ := hv
  exact .of_V (.pure hr h1 h2)

theorem OpOk.of_U {s : Sem Unit} {h' : AHeap} (hv : UOk P base ρ h w s h') : OpOk P base ρ h w (do s; pure .skip : Sem Next) (.tuple []) h' := by
  obtain ⟨w', ρ', h1, h3, h4⟩ := hv
  exact ⟨.skip, undef, w', ρ', by simp [h1], .inr ⟨rfl, rfl⟩, .tuple' (.nil _), h3, h4⟩

theorem optVal_inv {hh : AHeap} {x : Option AVal} {v : AVal} {h' : AHeap} (e : optVal hh x = some (.val v h')) : x = some v ∧ h' = hh := by
  cases x with
  | none => cases e
  | some y => cases e; exact ⟨rfl, rfl⟩
theorem optPair_inv {x : Option (AVal × AHeap)} {v : AVal} {h' : AHeap} (e : optPair x = some (.val v h')) : x = some (v, h') := by
  cases x with
  | none => cases e
  | some y => cases e; rfl
theorem optHeap_inv {x : Option AHeap} {v : AVal} {h' : AHeap} (e : optHeap x = some (.val v h')) : x = some h' ∧ v = .tuple [] := by
  cases x with
  | none => cases e
  | some y => cases e; exact ⟨rfl, rfl⟩
theorem optVal_call {hh : AHeap} {x : Option AVal} {f : AVal} {as : List AVal} : optVal hh x ≠ some (.call f as) := by cases x <;> simp [optVal]
theorem optPair_call {x : Option (AVal × AHeap)} {f : AVal} {as : List AVal} : optPair x ≠ some (.call f as) := by cases x <;> simp [optPair]
theorem optHeap_call {x : Option AHeap} {f : AVal} {as : List AVal} : optHeap x ≠ some (.call f as) := by cases x <;> simp [optHeap]

theorem orel_map {ev : Operand → AVal} {cev : Operand → Value} (hev : ∀ x, VRel ρ (ev x) (cev x)) (o : Option Operand) : ORel ρ (o.map ev) (o.map cev) := by
  cases o with
  | none => exact .inl ⟨rfl, rfl⟩
  | some x => exact .inr ⟨_, _, rfl, rfl, hev x⟩

theorem lrel_map {ev : Operand → AVal} {cev : Operand → Value} (hev : ∀ x, VRel ρ (ev x) (cev x)) (xs : Array Operand) : LRel ρ (xs.toList.map ev) (xs.map cev).toList := by
  refine ⟨by simp, fun i v v' hv hv' => ?_⟩
  simp only [List.getElem?_map, Array.toList_map] at hv hv'
  cases hq : xs.toList[i]? with
  | none => rw [hq] at hv; cases hv
  | some q => rw [hq] at hv hv'; cases hv; cases hv'; exact hev q

theorem newVar_rel {v : AVal} {v' : Value} (hr : H0 base ρ h w) (hn : ρ h.next = none) (hv : VRel ρ v v') (hu : v ≠ .undef) (el : TypeId) :
    VOk P base ρ h w (do pure (.pointer (some (← newVar el v'))) : Sem Value) (.ptr h.next 0) (h.push (.arr v.cells false)) := by
  have hc := hv.cells hu
  obtain ⟨a, b⟩ := newRow_rel (cc := v'.cells) hr hn (cells := v.cells) (by rw [take_all (by rw [hc.1]; exact Nat.le_refl _)]; exact hc) (by rw [hc.1]; simp) el (w.alloc (.cells v'.cells el)) rfl rfl rfl rfl
  exact ⟨.pointer (some ⟨w.heap.size, 0, none⟩), _, _, by simp [newVar, newRow], .ptr h.next 0 ⟨w.heap.size, 0, _⟩ (Emb.add_same _ _ _), a, b⟩

include ok in
theorem builtin_ok {b : Builtin} {argTypes : Array TypeId} {ty : TypeId} {consts : Array Bool} {xs : List AVal} {xs' : Array Value} {v : AVal} {h' : AHeap} (hr : H0 base ρ h w) (hn : h'.next ≠ h.next → ρ h.next = none) (hx : LRel ρ xs xs'.toList)
    (hl : abuiltin T b argTypes xs h = some (.val v h')) : OpOk P base ρ h w (builtin b argTypes ty consts xs') v h' := by
  unfold abuiltin at hl
  split at hl
  · rename_i x
    split at hl
    case h_2 => cases hl
    rename_i t ht
    obtain ⟨hl2, rfl⟩ := optVal_inv hl
    obtain ⟨y, ys, e, h1, h2⟩ := hx.cons_inv
    have e2 : xs' = #[y] := by apply Array.ext'; rw [e, h2.nil_inv]
    subst e2
    exact OpOk.of_pure hr (len_ok ok hr ht h1 hl2)
  · rename_i s x
    have hl := optPair_inv hl
    obtain ⟨y, ys, e, h1, h2⟩ := hx.cons_inv
    obtain ⟨z, zs, e', h3, h4⟩ := h2.cons_inv
    have e2 : xs' = #[y, z] := by apply Array.ext'; rw [e, e', h4.nil_inv]
    subst e2
    exact .of_V (append_ok ok hr hn h1 h3 hl)
  · rename_i s x
    have hl := optPair_inv hl
    obtain ⟨y, ys, e, h1, h2⟩ := hx.cons_inv
    obtain ⟨z, zs, e', h3, h4⟩ := h2.cons_inv
    have e2 : xs' = #[y, z] := by apply Array.ext'; rw [e, e', h4.nil_inv]
    subst e2
    exact .of_V (copy_ok ok hr h1 h3 hl)
  · obtain ⟨hl2, rfl⟩ := optVal_inv hl
    exact OpOk.of_pure hr (max_ok hx hl2)
  · obtain ⟨hl2, rfl⟩ := optVal_inv hl
    exact OpOk.of_pure hr (min_ok hx hl2)
  · cases hl

theorem abuiltin_call {b : Builtin} {argTypes : Array TypeId} {xs : List AVal} {f : AVal} {as : List AVal} : abuiltin T b argTypes xs h ≠ some (.call f as) := by
  unfold abuiltin
  split
  · split
    · exact optVal_call
    · simp
  · exact optPair_call
  · exact optPair_call
  · exact optVal_call
  · exact optVal_call
  · simp

include ok in
theorem aop_ok {o : Oper} {ev : Operand → AVal} {cev : Operand → Value} {v : AVal} {h' : AHeap} (hr : H0 base ρ h w) (hn : h'.next ≠ h.next → ρ h.next = none) (hev : ∀ x, VRel ρ (ev x) (cev x)) (hl : aop T ev h o.op = some (.val v h')) :
    OpOk P base ρ h w (execOp cev o) v h' := by
  unfold execOp
  cases hop : o.op <;> rw [hop] at hl <;> simp only [aop] at hl <;> (try (cases hl; done))
  case move x => cases hl; exact ⟨_, _, w, ρ, rfl, .inl rfl, hev x, hr, .refl _ _ _⟩
  case assign x => cases hl; exact ⟨_, _, w, ρ, rfl, .inl rfl, hev x, hr, .refl _ _ _⟩
  case pick c a b =>
    unfold opPick at hl
    split at hl
    · rename_i t hc
      cases hl
      have := hev c
      rw [hc] at this
      generalize hcc : cev c = cc at this
      cases this
      refine ⟨.value (if t then cev a else cev b), _, w, ρ, by simp [asBool, hcc], .inl rfl, ?_, hr, .refl _ _ _⟩
      cases t
      · exact hev b
      · exact hev a
    · cases hl
  case alloc elem =>
    unfold opAlloc at hl
    split at hl
    case h_2 => cases hl
    rename_i z hz
    cases hl
    obtain ⟨j, zv, hj, hjz, hzv⟩ := ok.zero hz
    have := newVar_rel (P := P) hr (hn (by simp [AHeap.next_push])) (ofVal_rel ρ zv z hzv) (ofVal_defd hzv) elem
    obtain ⟨v', w', ρ', h1, h2, h3, h4⟩ := this
    refine ⟨.value v', v', w', ρ', ?_, .inl rfl, h2, h3, h4⟩
    simp only [Sem.run_bind] at h1
    simp only [Instr.alloc, Sem.run_bind, run_zeroValue' hj hjz, Result.andThen_ok, Sem.run_pure]
    simp only [Sem.run_pure] at h1
    rw [h1]; rfl
  case box elem x =>
    unfold opBox at hl
    split at hl
    · cases hl
    · rename_i hne
      cases hl
      have := newVar_rel (P := P) hr (hn (by simp [AHeap.next_push])) (hev x) (fun e => hne e) elem
      exact .of_V this
  case build t parts =>
    obtain ⟨hl2, rfl⟩ := optVal_inv hl
    exact OpOk.of_pure hr (build_ok ok hev parts hl2)
  case buildSlice t len parts =>
    exact .of_V (buildSlice_ok ok hr hn hev parts (optPair_inv hl))
  case load t a =>
    obtain ⟨hl2, rfl⟩ := optVal_inv hl
    exact .of_V (load_ok ok hr (hev a) hl2)
  case store t a x =>
    obtain ⟨hl2, rfl⟩ := optHeap_inv hl
    exact .of_U (store_ok ok hr (hev a) (hev x) hl2)
  case nilCheck x =>
    unfold opNilCheck at hl
    have hx := hev x
    split at hl
    · rename_i b off he
      rw [he] at hx
      cases hl
      generalize hcc : cev x = cc at hx
      have hx2 := hx
      cases hx with
      | ptr _ _ l hb => exact ⟨_, _, w, ρ, by simp only [hcc]; rfl, .inl rfl, hx2, hr, .refl _ _ _⟩
    · rename_i f a b he
      rw [he] at hx
      cases hl
      generalize hcc : cev x = cc at hx
      have hx2 := hx
      cases hx with
      | func fn fn' f' c f2 c2 hfn hf hc hfs hcs =>
        rcases hfn with ⟨l, l', e, _⟩ | ⟨g, e, rfl⟩
        · cases e
        · exact ⟨_, _, w, ρ, by simp only [hcc]; rfl, .inl rfl, hx2, hr, .refl _ _ _⟩
    · rename_i f a b he
      rw [he] at hx
      cases hl
      generalize hcc : cev x = cc at hx
      have hx2 := hx
      cases hx with
      | func fn fn' f' c f2 c2 hfn hf hc hfs hcs =>
        rcases hfn with ⟨l, l', e, rfl, _⟩ | ⟨g, e, rfl⟩
        · exact ⟨_, _, w, ρ, by simp only [hcc]; rfl, .inl rfl, hx2, hr, .refl _ _ _⟩
        · cases e
    · cases hl
  case binOp op t x y yt =>
    obtain ⟨hl2, rfl⟩ := optVal_inv hl
    exact OpOk.of_pure hr (bin_ok ok x y (hev x) (hev y) hl2)
  case unOp op t x =>
    obtain ⟨hl2, rfl⟩ := optVal_inv hl
    exact OpOk.of_pure hr (un_ok (hev x) hl2)
  case convert src dst x =>
    obtain ⟨hl2, rfl⟩ := optVal_inv hl
    exact OpOk.of_pure hr (convert_ok ok (hev x) hl2)
  case makeInterface t x =>
    unfold opMakeInterface at hl
    split at hl
    · cases hl
    · rename_i d hne hu
      cases hl
      refine OpOk.of_pure hr ⟨.iface t (cev x), ?_, .iface _ _ _ (hev x)⟩
      simp only [Instr.makeInterface, Sem.run_bind, run_underlying' (ok.und hu), Result.andThen_ok]
      cases d <;> first | rfl | (exact absurd rfl (hne _))
    · cases hl
  case makeFunc fn first captured =>
    unfold opMakeFunc at hl
    split at hl
    · cases hl
      rename_i f
      refine OpOk.of_pure hr ⟨_, rfl, ?_⟩
      have h1 := lrel_map hev first
      have h2 := lrel_map hev captured
      exact .func _ _ _ _ _ _ (.inr ⟨f, rfl, rfl⟩) (by rw [h1.1]; simp) (by rw [h2.1]; simp) (fun i v v' a b => h1.2 i v v' a (by simpa using b)) (fun i v v' a b => h2.2 i v v' a (by simpa using b))
    · cases hl
  case makeMap t r =>
    unfold opMakeMap at hl
    split at hl
    case h_2 => cases hl
    rename_i k e n hu hn
    cases hl
    obtain ⟨a, b⟩ := push_rel hr (hn (by simp [AHeap.next_push])) (.mp []) (.map #[] 0) (w.alloc (.map #[] 0)) 0 rfl rfl rfl rfl
      ⟨hr.base, #[], 0, heap_alloc_new w _, rfl, by simp⟩
    refine .of_V ⟨.map (some w.heap.size), _, _, ?_, .map h.next ⟨w.heap.size, 0, 0⟩ (Emb.add_same _ _ _), a, b⟩
    cases r with
    | none => simp [Instr.makeMap]
    | some x =>
      simp only at hn
      split at hn
      case h_2 => cases hn
      rename_i kk nn he
      have hx := hev x
      rw [he] at hx
      generalize hcc : cev x = cc at hx
      cases hx
      simp [Instr.makeMap, run_underlying' (ok.und hu), asInt, asIntOf, hcc]
  case makeSlice t l c =>
    exact .of_V (makeSlice_ok ok hr hn (hev l) (hev c) (optPair_inv hl))
  case slice t x lo hi mx =>
    obtain ⟨hl2, rfl⟩ := optVal_inv hl
    exact OpOk.of_pure hr (slice_ok ok (hev x) (orel_map hev lo) (orel_map hev hi) (orel_map hev mx) hl2)
  case fieldAddr s x f =>
    obtain ⟨hl2, rfl⟩ := optVal_inv hl
    exact OpOk.of_pure hr (fieldAddr_ok ok (hev x) hl2)
  case field t x f =>
    obtain ⟨hl2, rfl⟩ := optVal_inv hl
    exact OpOk.of_pure hr (field_ok ok (hev x) hl2)
  case indexAddr t x ix =>
    obtain ⟨hl2, rfl⟩ := optVal_inv hl
    exact OpOk.of_pure hr (indexAddr_ok ok (hev x) (hev ix) hl2)
  case index t x ix =>
    obtain ⟨hl2, rfl⟩ := optVal_inv hl
    exact OpOk.of_pure hr (index_ok ok (hev x) (hev ix) hl2)
  case lookup t x ix b =>
    obtain ⟨hl2, rfl⟩ := optVal_inv hl
    exact OpOk.of_pure hr (lookup_ok ok hr (hev x) (hev ix) hl2)
  case mapUpdate t m k x =>
    obtain ⟨hl2, rfl⟩ := optHeap_inv hl
    exact .of_U (mapUpdate_ok ok hr (hev m) (hev k) (hev x) hl2)
  case insert t m k x =>
    obtain ⟨hl2, rfl⟩ := optHeap_inv hl
    exact .of_U (mapUpdate_ok ok hr (hev m) (hev k) (hev x) hl2)
  case extract t i =>
    unfold opExtract at hl
    split at hl
    case h_2 => cases hl
    rename_i vs he
    obtain ⟨hl2, rfl⟩ := optVal_inv hl
    have hx := hev t
    rw [he] at hx
    obtain ⟨cs', hc, hcs⟩ := hx.tuple_inv
    obtain ⟨v', hv', hvv⟩ := hcs.at hl2
    rw [Array.getElem?_toList] at hv'
    exact OpOk.of_pure hr ⟨v', by simp [Instr.extract, hc, hv'], hvv⟩
  case call c =>
    unfold opCall at hl
    split at hl
    · rename_i b hc
      have := builtin_ok ok (ty := o.type) (consts := c.args.map fun | .const _ => true | _ => false) (xs' := c.args.map cev) hr hn (lrel_map hev c.args) hl
      obtain ⟨nx, v', w', ρ', h1, h2⟩ := this
      refine ⟨nx, v', w', ρ', ?_, h2⟩
      simp only [resolve, hc, Sem.run_bind, Sem.run_pure, Result.andThen_ok, invoke]
      exact h1
    · cases hl
    · cases hl

/- a call of a function value -/
theorem aop_call_inv {o : Op} {ev : Operand → AVal} {f : AVal} {as : List AVal} (hl : aop T ev h o = some (.call f as)) :
    ∃ c fo, o = .call c ∧ c.callee = .value fo ∧ f = ev fo ∧ as = c.args.toList.map ev := by
  cases o <;> simp only [aop] at hl <;> (try (cases hl; done)) <;> (try (exact absurd hl optVal_call)) <;> (try (exact absurd hl optPair_call)) <;> (try (exact absurd hl optHeap_call))
  case pick => unfold opPick at hl; split at hl <;> cases hl
  case alloc => unfold opAlloc at hl; split at hl <;> cases hl
  case box => unfold opBox at hl; split at hl <;> cases hl
  case nilCheck => unfold opNilCheck at hl; split at hl <;> cases hl
  case makeInterface => unfold opMakeInterface at hl; split at hl <;> cases hl
  case makeFunc => unfold opMakeFunc at hl; split at hl <;> cases hl
  case makeMap => unfold opMakeMap at hl; split at hl <;> cases hl
  case extract => unfold opExtract at hl; split at hl; exact absurd hl optVal_call; cases hl
  case call c =>
    unfold opCall at hl
    split at hl
    · exact absurd hl abuiltin_call
    · rename_i fo hc
      cases hl
      exact ⟨c, fo, rfl, hc, rfl, rfl⟩
    · cases hl

end

end Go.Ai
