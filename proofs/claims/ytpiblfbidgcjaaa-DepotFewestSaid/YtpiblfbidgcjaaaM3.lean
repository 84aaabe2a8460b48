/- Rows whose elements are rows that are owned too. -/
import Derived.Test.YtpiblfbidgcjaaaM2
import Derived.Test.YtpiblfbidgcjaaaM1
import Derived.HandedShaped
import Derived.Carry
import Derived.OpenShut
import Derived.JoinedOf
import Derived.ChangeCalls
import Derived.Test.YtpiblfbidgcjaaaM0
namespace Go.Ai.Sx

/- a cell as it stands -/
def rRaw : Rep AVal := ⟨1, false, fun _ cs x => cs = [x] ∧ x.one = true ∧ x.isAgg = false, fun _ _ _ h => by rw [h.1]; rfl, fun _ _ _ _ _ h => h, fun _ => rfl, fun _ _ _ h => by rw [h.1]; simp [h.2.1]⟩

theorem tv_raw {z : Store} {v x : AVal} (q : TV rRaw z v x) : v = x := by
  have h1 := q.agg
  have h2 := q.rel
  cases v <;> simp_all [AVal.isAgg, AVal.cells, rRaw]
theorem tv_raw_row {A : Type} {R : Rep A} {xs : List A} {z z0 : Store} {h : AHeap} {v : AVal} (q : (Obj.row R xs).ok z0 h v) : TV rRaw z v v := by
  simp only [Obj.ok] at q
  rcases q.2 with ⟨rfl, _⟩ | ⟨b, off, cap, cells, rfl, _⟩ <;> exact ⟨⟨rfl, rfl, rfl⟩, rfl⟩

/- many rows, told by their headers -/
def pack {A : Type} (R : Rep A) (hs : List AVal) (xss : List (List A)) : Obj :=
  .cb (hs.flatMap fun v => (blkO v).toList) (fun z h => hs.length = xss.length ∧ ∀ (i : Nat) (v : AVal) (xs : List A), hs[i]? = some v → xss[i]? = some xs → (Obj.row R xs).ok z h v)

theorem pack_blk {A : Type} {R : Rep A} {hs : List AVal} {xss : List (List A)} {u : AVal} : blkE (u, pack R hs xss) = hs.flatMap fun v => (blkO v).toList := rfl

theorem pack_ok {A : Type} {R : Rep A} {hs : List AVal} {xss : List (List A)} {u : AVal} {z : Store} {h : AHeap} (h1 : hs.length = xss.length) (h2 : ∀ (i : Nat) (v : AVal) (xs : List A), hs[i]? = some v → xss[i]? = some xs → (Obj.row R xs).ok z h v) : (pack R hs xss).ok z h u := by
  refine ⟨⟨h1, h2⟩, fun z z' h h' hz hb q => ⟨q.1, fun i v xs hv hx => ?_⟩⟩
  refine Obj.ok_mono (o := .row R xs) hz (fun b hb' => ?_) (q.2 i v xs hv hx)
  exact hb b (List.mem_flatMap.2 ⟨v, List.mem_of_getElem? hv, hb'⟩)
theorem pack_inv {A : Type} {R : Rep A} {hs : List AVal} {xss : List (List A)} {u : AVal} {z : Store} {h : AHeap} (q : (pack R hs xss).ok z h u) : hs.length = xss.length ∧ ∀ (i : Nat) (v : AVal) (xs : List A), hs[i]? = some v → xss[i]? = some xs → (Obj.row R xs).ok z h v := by
  simp only [pack, Obj.ok] at q
  exact q.1

section
variable {C : Ctx} {T : Tab} {d : Option (List Nat)} {ops rest : List Oper} {Γ : Env} {L : Own} {Q : AFrame → AHeap → Prop} {P : AExit → AFrame → AHeap → Prop} {o : Oper} {t : Nat} {z : Store} {fr : AFrame} {h : AHeap}

/- something that holds wherever the run stands -/
theorem s_fact {F : Prop} (q : ∀ z fr h, StZ C Γ L z fr h → F) (r : F → SOps C T d ops rest Γ L Q) : SOps C T d ops rest Γ L Q := by
  cases d with
  | none => exact fun fr h ⟨z, s⟩ => r (q z fr h s) fr h ⟨z, s⟩
  | some ol => exact fun z fr h i done s hr hok hd => r (q z fr h s) z fr h i done s hr hok hd

/- the same blocks, held otherwise -/
theorem StZ.repack (s : StZ C Γ L z fr h) {L' : Own} (hp : (blks L').Perm (blks L)) (hk : ∀ p ∈ L', p.2.ok z h p.1) : StZ C Γ L' z fr h := by
  refine { s with own := ⟨hk, fun p hp' b hb => ?_, hp.nodup_iff.2 s.own.nodup⟩ }
  have h1 := hp.mem_iff.1 (mem_blks.2 ⟨p, hp', hb⟩)
  obtain ⟨q, hq, hb'⟩ := mem_blks.1 h1
  exact s.own.out q hq b hb'

theorem erase_perm {α : Type} : ∀ {l : List α} {i : Nat} {a : α}, l[i]? = some a → l.Perm (a :: l.eraseIdx i)
  | [], _, _, h => by simp at h
  | x :: l, 0, a, h => by simp at h; subst h; exact .refl _
  | x :: l, i + 1, a, h => by
    simp only [List.getElem?_cons_succ] at h
    exact ((erase_perm h).cons x).trans (.swap a x _)
theorem set_perm {α : Type} : ∀ {l : List α} {i : Nat} {a b : α}, l[i]? = some a → (l.set i b).Perm (b :: l.eraseIdx i)
  | [], _, _, _, h => by simp at h
  | x :: l, 0, a, b, h => .refl _
  | x :: l, i + 1, a, b, h => by
    simp only [List.getElem?_cons_succ] at h
    exact ((set_perm h).cons x).trans (.swap b x _)

theorem blks_perm {L L' : Own} (hp : L.Perm L') : (blks L).Perm (blks L') := List.Perm.flatMap_right _ hp

theorem st_pack0 {A : Type} (R : Rep A) : ∀ z fr h, StZ C Γ L z fr h → ∃ z', z.le z' ∧ StZ C Γ ((.undef, pack R [] []) :: L) z' fr h := fun z fr h s =>
  ⟨z, .refl _, s.repack (by rw [blks_cons, pack_blk]; exact .refl _) (fun p hp => by
    rcases List.mem_cons.1 hp with rfl | hp
    · exact pack_ok rfl (by simp)
    · exact s.own.ok p hp)⟩

/- a row of the pack is told by itself -/
theorem st_take {A : Type} {R : Rep A} {u v : AVal} {hs : List AVal} {xss : List (List A)} {xs : List A} {i : Nat} (k : Nat) {L' : Own} (hk : L[k]? = some (u, pack R hs xss)) (hL : dropAt L k = some L') (hv : hs[i]? = some v) (hx : xss[i]? = some xs) :
    ∀ z fr h, StZ C Γ L z fr h → ∃ z', z.le z' ∧ StZ C Γ ((v, .row R xs) :: (u, pack R (hs.eraseIdx i) (xss.eraseIdx i)) :: L') z' fr h := fun z fr h s => by
  have hp := dropAt_perm hk hL
  have hq := pack_inv (s.own.ok _ (List.mem_of_getElem? hk))
  have hi := (List.getElem?_eq_some_iff.1 hv).1
  refine ⟨z, .refl _, s.repack ?_ (fun p hp' => ?_)⟩
  · refine List.Perm.trans ?_ (blks_perm hp)
    rw [blks_cons, blks_cons, blks_cons, pack_blk, pack_blk, ← List.append_assoc]
    refine List.Perm.append_right _ ?_
    have := List.Perm.flatMap_right (fun v => (blkO v).toList) (erase_perm hv)
    rw [List.flatMap_cons] at this
    exact this.symm
  · rcases List.mem_cons.1 hp' with rfl | hp'
    · exact hq.2 i v xs hv hx
    · rcases List.mem_cons.1 hp' with rfl | hp'
      · refine pack_ok (by rw [List.length_eraseIdx, List.length_eraseIdx, hq.1]) (fun j w ys hw hy => ?_)
        rw [List.getElem?_eraseIdx] at hw hy
        split at hw
        · rename_i q; rw [if_pos q] at hy; exact hq.2 j w ys hw hy
        · rename_i q; rw [if_neg q] at hy; exact hq.2 _ w ys hw hy
      · exact s.own.ok p (hp.mem_iff.1 (List.mem_cons_of_mem _ hp'))

/- and put into it -/
theorem st_put {A : Type} {R : Rep A} {u v w : AVal} {hs : List AVal} {xss : List (List A)} {xs ws : List A} {i : Nat} (k m : Nat) {L' L'' : Own} (hk : L[k]? = some (v, .row R xs)) (hL : dropAt L k = some L') (hm : L'[m]? = some (u, pack R (hs.eraseIdx i) (xss.eraseIdx i))) (hL' : dropAt L' m = some L'') (hv : hs[i]? = some w) (hx : xss[i]? = some ws) :
    ∀ z fr h, StZ C Γ L z fr h → ∃ z', z.le z' ∧ StZ C Γ ((u, pack R (hs.set i v) (xss.set i xs)) :: L'') z' fr h := fun z fr h s => by
  have hp := dropAt_perm hk hL
  have hp' := dropAt_perm hm hL'
  have hmem : (u, pack R (hs.eraseIdx i) (xss.eraseIdx i)) ∈ L := hp.mem_iff.1 (List.mem_cons_of_mem _ (List.mem_of_getElem? hm))
  have hq := pack_inv (s.own.ok _ hmem)
  have hi := (List.getElem?_eq_some_iff.1 hv).1
  have hi' := (List.getElem?_eq_some_iff.1 hx).1
  have hlen : hs.length = xss.length := by
    have := hq.1
    rw [List.length_eraseIdx, List.length_eraseIdx, if_pos hi, if_pos hi'] at this
    omega
  refine ⟨z, .refl _, s.repack ?_ (fun p hp'' => ?_)⟩
  · refine List.Perm.trans ?_ (blks_perm hp)
    rw [blks_cons, blks_cons]
    refine List.Perm.trans ?_ (List.Perm.append_left _ (blks_perm hp'))
    rw [blks_cons, pack_blk, pack_blk, ← List.append_assoc]
    refine List.Perm.append_right _ ?_
    have := List.Perm.flatMap_right (fun v => (blkO v).toList) (set_perm (b := v) hv)
    rw [List.flatMap_cons] at this
    exact this
  · rcases List.mem_cons.1 hp'' with rfl | hp''
    · refine pack_ok (by rw [List.length_set, List.length_set, hlen]) (fun j w' ys hw hy => ?_)
      rw [List.getElem?_set] at hw hy
      by_cases q : i = j
      · rw [if_pos q, if_pos (by omega)] at hw hy
        cases hw; cases hy
        exact s.own.ok _ (List.mem_of_getElem? hk)
      · rw [if_neg q] at hw hy
        by_cases q2 : j < i
        · exact hq.2 j w' ys (by rw [List.getElem?_eraseIdx, if_pos q2]; exact hw) (by rw [List.getElem?_eraseIdx, if_pos q2]; exact hy)
        · obtain ⟨j', rfl⟩ : ∃ j', j = j' + 1 := ⟨j - 1, by omega⟩
          exact hq.2 j' w' ys (by rw [List.getElem?_eraseIdx, if_neg (by omega)]; exact hw) (by rw [List.getElem?_eraseIdx, if_neg (by omega)]; exact hy)
    · exact s.own.ok p (hp.mem_iff.1 (List.mem_cons_of_mem _ (hp'.mem_iff.1 (List.mem_cons_of_mem _ hp''))))

theorem set_same {α : Type} {l : List α} {i : Nat} {a : α} (h : l[i]? = some a) : l.set i a = l := by
  apply List.ext_getElem?
  intro j
  rw [List.getElem?_set]
  split
  · rename_i q
    subst q
    rw [if_pos (List.getElem?_eq_some_iff.1 h).1]; exact h.symm
  · rfl
theorem st_back {A : Type} {R : Rep A} {u v : AVal} {hs : List AVal} {xss : List (List A)} {xs : List A} {i : Nat} (k m : Nat) {L' L'' : Own} (hk : L[k]? = some (v, .row R xs)) (hL : dropAt L k = some L') (hm : L'[m]? = some (u, pack R (hs.eraseIdx i) (xss.eraseIdx i))) (hL' : dropAt L' m = some L'') (hv : hs[i]? = some v) (hx : xss[i]? = some xs) :
    ∀ z fr h, StZ C Γ L z fr h → ∃ z', z.le z' ∧ StZ C Γ ((u, pack R hs xss) :: L'') z' fr h := fun z fr h s => by
  have := st_put (w := v) (ws := xs) (R := R) k m hk hL hm hL' hv hx z fr h s
  rw [set_same hv, set_same hx] at this
  exact this

theorem st_push {A : Type} {R : Rep A} {u v : AVal} {hs : List AVal} {xss : List (List A)} {xs : List A} (k m : Nat) {L' L'' : Own} (hk : L[k]? = some (v, .row R xs)) (hL : dropAt L k = some L') (hm : L'[m]? = some (u, pack R hs xss)) (hL' : dropAt L' m = some L'') :
    ∀ z fr h, StZ C Γ L z fr h → ∃ z', z.le z' ∧ StZ C Γ ((u, pack R (hs ++ [v]) (xss ++ [xs])) :: L'') z' fr h := fun z fr h s => by
  have hp := dropAt_perm hk hL
  have hp' := dropAt_perm hm hL'
  have hmem : (u, pack R hs xss) ∈ L := hp.mem_iff.1 (List.mem_cons_of_mem _ (List.mem_of_getElem? hm))
  have hq := pack_inv (s.own.ok _ hmem)
  refine ⟨z, .refl _, s.repack ?_ (fun p hp'' => ?_)⟩
  · refine List.Perm.trans ?_ (blks_perm hp)
    rw [blks_cons, blks_cons]
    refine List.Perm.trans ?_ (List.Perm.append_left _ (blks_perm hp'))
    rw [blks_cons, pack_blk, pack_blk, ← List.append_assoc, List.flatMap_append]
    refine List.Perm.append_right _ ?_
    simp only [List.flatMap_cons, List.flatMap_nil, List.append_nil]
    exact List.perm_append_comm
  · rcases List.mem_cons.1 hp'' with rfl | hp''
    · refine pack_ok (by simp [hq.1]) (fun j w' ys hw hy => ?_)
      rw [List.getElem?_append] at hw hy
      rw [hq.1] at hw
      split at hw
      · rename_i q; rw [if_pos q] at hy; exact hq.2 j w' ys hw hy
      · rename_i q
        rw [if_neg q] at hy
        by_cases q2 : j - xss.length = 0
        · rw [q2] at hw hy
          simp at hw hy
          subst hw hy
          exact s.own.ok _ (List.mem_of_getElem? hk)
        · rw [List.getElem?_eq_none (by simp; omega)] at hw; cases hw
    · exact s.own.ok p (hp.mem_iff.1 (List.mem_cons_of_mem _ (hp'.mem_iff.1 (List.mem_cons_of_mem _ hp''))))

/- a place that holds a cell as it stands -/
theorem frok_at {e : TE} {n : Nat} (hf : FrOk z Γ fr) (h : e.ok z (fr.ev n)) : FrOk z ((n, e) :: Γ) fr := by
  intro t e' q
  simp only [look] at q
  cases hb : Nat.beq n t with
  | true =>
    rw [hb] at q
    cases q
    have := Nat.eq_of_beq_eq_true hb
    subst this
    exact h
  | false => rw [hb] at q; exact hf t e' q
theorem st_unraw {x : AVal} {n : Nat} (hl : look Γ n = some (.val rRaw x)) : ∀ z fr h, StZ C Γ L z fr h → ∃ z', z.le z' ∧ StZ C ((n, .raw x) :: Γ) L z' fr h := fun z fr h s => by
  have h1 := s.fr _ _ hl
  simp only [TE.ok] at h1
  exact ⟨z, .refl _, { s with fr := frok_at s.fr (by simp only [TE.ok]; exact tv_raw h1) }⟩
theorem st_toraw {A : Type} {R : Rep A} {xs : List A} {v : AVal} {n : Nat} (k : Nat) (hk : L[k]? = some (v, .row R xs)) (hl : look Γ n = some (.raw v)) : ∀ z fr h, StZ C Γ L z fr h → ∃ z', z.le z' ∧ StZ C ((n, .val rRaw v) :: Γ) L z' fr h := fun z fr h s => by
  have h1 := s.fr _ _ hl
  simp only [TE.ok] at h1
  exact ⟨z, .refl _, { s with fr := frok_at s.fr (by simp only [TE.ok]; rw [h1]; exact tv_raw_row (s.own.ok _ (List.mem_of_getElem? hk))) }⟩

theorem idx_hd {A : Type} {hs : List AVal} {xss : List (List A)} {i : Int} {a : List A} (hl : hs.length = xss.length) (hi : idx xss i = some a) : ∃ w, idx hs i = some w ∧ hs[i.toNat]? = some w := by
  obtain ⟨h0, h1, h2, h3⟩ := idx_inv hi
  refine ⟨hs[i.toNat]'(by omega), ?_, List.getElem?_eq_getElem _⟩
  unfold idx
  rw [if_pos h0]
  exact List.getElem?_eq_getElem _

theorem idx_of {A : Type} {hs : List AVal} {xss : List (List A)} {i : Int} {a : List A} {w : AVal} (hi : idx xss i = some a) (hw : hs[i.toNat]? = some w) : idx hs i = some w := by
  unfold idx
  rw [if_pos (idx_inv hi).1]; exact hw

theorem s_idxr {A : Type} {R : Rep A} {x y : Operand} {hs : List AVal} {xss : List (List A)} {st et : TypeId} {kk : IntKind} {i : Int} {a : List A} {v u : AVal} (k m : Nat) (hsl : Sl T st et rRaw) (hi : idx xss i = some a) (hw : Want ops Γ true o.guard) (ho : o.op = .indexAddr st x y) (hd : o.dst = some t)
    (hx : Opd Γ x (.raw v)) (hk : L[k]? = some (v, .row rRaw hs)) (hm : L[m]? = some (u, pack R hs xss)) (hy : Opd Γ y (.val (rInt kk) i)) (r : ∀ w, hs[i.toNat]? = some w → SOps C T d ops rest ((t, .elt v i.toNat 0) :: Γ) L Q) : SOps C T d ops (o :: rest) Γ L Q :=
  s_fact (F := hs.length = xss.length) (fun _ _ _ s => (pack_inv (s.own.ok _ (List.mem_of_getElem? hm))).1) fun hl => by
    obtain ⟨w, h1, h2⟩ := idx_hd hl hi
    exact s_idxo k hsl h1 hw ho hd hx hk hy (r w h2)

theorem s_lenr {A : Type} {R : Rep A} {c : Call} {x : Operand} {hs : List AVal} {xss : List (List A)} {st et : TypeId} {v u : AVal} (k m : Nat) (hsl : Sl T st et rRaw) (hw : Want ops Γ true o.guard) (ho : o.op = .call c) (hd : o.dst = some t) (hc : c.callee = .builtin .len) (ha : c.args.toList = [x]) (ht : c.argTypes[0]? = some st)
    (hx : Opd Γ x (.raw v)) (hk : L[k]? = some (v, .row rRaw hs)) (hm : L[m]? = some (u, pack R hs xss)) (r : SOps C T d ops rest ((t, .val (rInt .i64) (lenI xss)) :: Γ) L Q) : SOps C T d ops (o :: rest) Γ L Q :=
  s_fact (F := hs.length = xss.length) (fun _ _ _ s => (pack_inv (s.own.ok _ (List.mem_of_getElem? hm))).1) fun hl =>
    s_leno k hsl hw ho hd hc ha ht hx hk (by rw [show lenI hs = lenI xss by unfold lenI; rw [hl]]; exact r)

theorem appO_raw {A : Type} {bytes : Nat} {hs : List AVal} {xss : List (List A)} {xs : List A} {zss : List (List A)} {v : AVal} (hl : hs.length = xss.length) (h : appO bytes xss [xs] = some zss) : appO bytes hs [v] = some (hs ++ [v]) ∧ zss = xss ++ [xs] := by
  unfold appO at h ⊢
  simp only [List.length_cons, List.length_nil] at h ⊢
  rw [hl]
  split at h
  · rename_i q; cases h; exact ⟨if_pos q, rfl⟩
  · cases h

/- a row is put behind the others -/
theorem s_appr {A : Type} {R : Rep A} {bytes : Nat} {x y : Operand} {c : Call} {st et : TypeId} {v w u : AVal} {hs : List AVal} {xss zss : List (List A)} {xs : List A} (k m n : Nat) (hsl : Sl T st et rRaw) (hty : Ty T et rRaw bytes) (hap : appO bytes xss [xs] = some zss) (hw : Want ops Γ true o.guard) (ho : o.op = .call c) (hd : o.dst = some t) (hc : c.callee = .builtin .append) (ha : c.args.toList = [x, y]) (hat : c.argTypes.toList = [st, st])
    (hx : Opd Γ x (.raw v)) (hk : L[k]? = some (v, .row rRaw hs)) (hy : Opd Γ y (.val (rSlice rRaw) [w])) {L1 L2 L3 : Own} (hL : dropAt L k = some L1) (hn : L1[n]? = some (w, .row R xs)) (hL1 : dropAt L1 n = some L2) (hm : L2[m]? = some (u, pack R hs xss)) (hL2 : dropAt L2 m = some L3)
    (r : ∀ v', SOps C T d ops rest ((t, .raw v') :: Γ) ((v', .row rRaw (hs ++ [w])) :: (u, pack R (hs ++ [w]) zss) :: L3) Q) : SOps C T d ops (o :: rest) Γ L Q :=
  s_fact (F := hs.length = xss.length) (fun _ _ _ s => by
    have hp := dropAt_perm hk hL
    have hp' := dropAt_perm hn hL1
    have : (u, pack R hs xss) ∈ L := hp.mem_iff.1 (List.mem_cons_of_mem _ (hp'.mem_iff.1 (List.mem_cons_of_mem _ (List.mem_of_getElem? hm))))
    exact (pack_inv (s.own.ok _ this)).1) fun hl => by
    obtain ⟨h1, h2⟩ := appO_raw (v := w) hl hap
    subst h2
    refine s_app k hsl hty h1 hw ho hd hc ha hat hx hk hy hL fun v' => ?_
    have e1 : dropAt ((v', Obj.row rRaw (hs ++ [w])) :: L1) (n + 1) = some ((v', Obj.row rRaw (hs ++ [w])) :: L2) := by simp only [dropAt, hL1]
    have e2 : dropAt ((v', Obj.row rRaw (hs ++ [w])) :: L2) (m + 1) = some ((v', Obj.row rRaw (hs ++ [w])) :: L3) := by simp only [dropAt, hL2]
    refine s_st (st_push (R := R) (n + 1) (m + 1) (by simpa using hn) e1 (by simpa using hm) e2) ?_
    refine s_st (L' := (v', Obj.row rRaw (hs ++ [w])) :: (u, pack R (hs ++ [w]) (xss ++ [xs])) :: L3) (fun z fr h s => ?_) (r v')
    have hpm : ((v', Obj.row rRaw (hs ++ [w])) :: (u, pack R (hs ++ [w]) (xss ++ [xs])) :: L3).Perm ((u, pack R (hs ++ [w]) (xss ++ [xs])) :: (v', Obj.row rRaw (hs ++ [w])) :: L3) := .swap ..
    exact ⟨z, .refl _, s.repack (blks_perm hpm) (fun p hp => s.own.ok p (hpm.mem_iff.1 hp))⟩

def untup : AVal → List AVal
  | .tuple l => l
  | _ => []
end
end Go.Ai.Sx

/- Plain functions that printed texts use. -/
namespace Go.Ai.Sx
abbrev w64 (n : Int) : Int := IntKind.i64.wrap n
abbrev bAnd (k : IntKind) (a b : Int) : Int := k.wrap ((BitVec.ofInt k.bits a &&& BitVec.ofInt k.bits b).toNat)
abbrev bOr (k : IntKind) (a b : Int) : Int := k.wrap ((BitVec.ofInt k.bits a ||| BitVec.ofInt k.bits b).toNat)
abbrev bXor (k : IntKind) (a b : Int) : Int := k.wrap ((BitVec.ofInt k.bits a ^^^ BitVec.ofInt k.bits b).toNat)
abbrev bAndNot (k : IntKind) (a b : Int) : Int := k.wrap ((BitVec.ofInt k.bits a &&& ~~~ (BitVec.ofInt k.bits b)).toNat)

theorem okn {z : Store} : okAll z [] [] := by simp only [okAll]
theorem okint {z : Store} {k : IntKind} {es : List TE} {vs : List AVal} (h : okAll z es vs) : okAll z (.val (rInt k) 0 :: es) (.int k 0 :: vs) := by
  simp only [okAll, TE.ok]
  exact ⟨_, _, rfl, tv_int_mk (by cases k <;> decide) (by cases k <;> decide), h⟩
theorem okbool {z : Store} {es : List TE} {vs : List AVal} (h : okAll z es vs) : okAll z (.val rBool false :: es) (.bool false :: vs) := by
  simp only [okAll, TE.ok]
  exact ⟨_, _, rfl, tv_bool_mk, h⟩
theorem oknil {A : Type} {R : Rep A} {z : Store} {es : List TE} {vs : List AVal} (h : okAll z es vs) : okAll z (.val (rSlice R) [] :: es) (.nilslice :: vs) := by
  simp only [okAll, TE.ok]
  exact ⟨_, _, rfl, tv_slice_mk row_nil, h⟩
theorem okraw {z : Store} {v : AVal} {es : List TE} {vs : List AVal} (h : okAll z es vs) : okAll z (.raw v :: es) (v :: vs) := by
  simp only [okAll, TE.ok]
  exact ⟨_, _, rfl, rfl, h⟩
end Go.Ai.Sx

/- An abstract interpreter for the model's code: from a run of it to what a law's row says. -/
namespace Go.Ai
open Go.RowKit

structure ARep (A : Type) where
  rel : Store → List AVal → A → Prop
  mono : ∀ z z' as x, z.le z' → rel z as x → rel z' as x

def aNil : ARep Unit := ⟨fun _ as _ => as = [], fun _ _ _ _ _ h => h⟩
def aCons {A B : Type} (R : Rep A) (S : ARep B) : ARep (A × B) :=
  ⟨fun h as x => ∃ a rest, as = a :: rest ∧ TV R h a x.1 ∧ S.rel h rest x.2, fun _ _ _ _ e h => let ⟨a, rest, h1, h2, h3⟩ := h; ⟨a, rest, h1, h2.mono e, S.mono _ _ _ _ e h3⟩⟩

def flat (P : Program) (t : TypeId) : Bool := match P.underlying t with | some (.int _) | some .bool | some (.slice _) | some (.struct _) => true | _ => false

def OpensA (P : Program) {A : Type} (ts : List TypeId) (S : ARep A) : Prop :=
  ∀ (H : Type) (enc : TypeId × Value → H) (W : World) (base : Nat) (vs : List Value) (ds : List (DataW H)) (ps : List MemPlace), 0 < W.heap.size →
    (∀ (j : Nat) t v, ts[j]? = some t → vs[j]? = some v → Value.okWide P W .any base t v) → DataW.TrodAll enc P W 0 (fun _ => true) true ts vs ds ps → ∀ (ρ : Emb) (h : AHeap), HRel W.heap.size ρ h W → NoOwn ρ h →
      ∃ ρ' h' as x, Lay W ρ h ρ' h' ∧ LRel ρ' as vs ∧ S.rel h'.st as x

section
variable {P : Program}

theorem opensA_nil : OpensA P [] aNil := by
  intro H enc W base vs ds ps _ _ hd ρ h hr hn
  obtain ⟨rfl, _⟩ := ChangeShapes.trodAll_nil hd
  exact ⟨ρ, h, [], (), ⟨.refl _, hr, hn, .refl _⟩, .nil _, rfl⟩

theorem opensA_cons {A B : Type} {t : TypeId} {ts : List TypeId} {R : Rep A} {S : ARep B} (ho : Opens P t R) (hf : flat P t = true) (hs : OpensA P ts S) : OpensA P (t :: ts) (aCons R S) := by
  intro H enc W base vs ds ps hpos hok hd ρ h hr hn
  obtain ⟨v, vs', d, ds', p, q, rfl, rfl, rfl, h1, h2⟩ := ChangeShapes.trodAll_cons hd
  obtain ⟨ρ1, h1', a, x, l1, r1, q1⟩ := opens_arg ho hpos (hok 0 t v rfl rfl) hf h1 hr hn
  obtain ⟨ρ2, h2', as, y, l2, r2, q2⟩ := hs H enc W base vs' ds' q hpos (fun j t' v' ht hv => hok (j + 1) t' v' (by simpa using ht) (by simpa using hv)) h2 ρ1 h1' l1.heap l1.none
  exact ⟨ρ2, h2', a :: as, (x, y), l1.trans l2, .cons (r1.mono l2.ext) r2, a, as, rfl, q1.mono l2.grow.st, q2⟩

theorem trodAll_below {H : Type} {enc : TypeId × Value → H} (hl : laidOutB P = true) {W W' : World} (hb : Below W.heap.size W W') : ∀ {ts : List TypeId} {vs : List Value} {ds : List (DataW H)} {ps : List MemPlace}, (∀ t ∈ ts, P.readableRec t = true ∧ t < P.types.size) →
    DataW.TrodAll enc P W 0 (fun _ => true) true ts vs ds ps → DataW.TrodAll enc P W' 0 (fun b => decide (b < W.heap.size)) true ts vs ds ps
  | [], [], [], _, _, h => h
  | t :: ts, v :: vs, d :: ds, ps, hts, ⟨p, q, h1, h2, e⟩ => by
    refine ⟨p, q, ?_, trodAll_below hl hb (fun t ht => hts t (List.mem_cons_of_mem _ ht)) h2, e⟩
    obtain ⟨hr, hrow⟩ := hts t (List.mem_cons_self ..)
    refine Below.trod hl hr hrow h1 hb ?_
    have h3 : DataW.TrodAll enc P W 0 (fun _ => true) true [t] [v] [d] p := ⟨p, [], h1, rfl, by simp⟩
    exact DataW.TrodAll.lt h3
  | [], _ :: _, _, _, _, h => h.elim
  | [], [], _ :: _, _, _, h => h.elim
  | _ :: _, [], _, _, _, h => h.elim
  | _ :: _, _ :: _, [], _, _, h => h.elim

end

/- a law's contract -/
theorem law_contract {T : Tab} {C : Checked} (ok : T.Ok C.prog) {f : FuncId} {fn : Func} {s : ChangeSpec} {A : Type} {S : ARep A} {tb : TypeId}
    (hl : laidOutB C.prog = true) (hvars : s.vars = []) (hrt : fn.resultTypes = #[tb]) (hb : C.prog.underlying tb = some .bool) (hts : ∀ t ∈ fn.params.toList, C.prog.readableRec t = true ∧ t < C.prog.types.size)
    (hfn : ∀ (H : Type) (ds : List (DataW H)), ds.length = fn.params.size → s.fn H ds = { results := [.lit (.bool true)], args := ds })
    (ho : OpensA C.prog fn.params.toList S)
    (law : ∀ (h : AHeap) (as : List AVal) (x : A), S.rel h.st as x → h.wm ≤ h.next → ∃ n h', acallFn T (aexec T n) f as h = some (.ret (.bool true), h'))
    {H : Type} {enc : TypeId × Value → H} {W : World} {base : Nat} {args : Array Value} {ds gs : List (DataW H)} {before : List MemPlace} (hpos : 0 < W.heap.size)
    (hval : ∀ (j : Nat) t v, fn.params[j]? = some t → args[j]? = some v → Value.okWide C.prog W .any base t v)
    (hW : DataW.Whole enc C.prog fn.params.toList s.vars false W args.toList ds gs before) :
    Calls C.prog f args W fun e W' => ∃ v, e = .returned v ∧ s.post enc C.prog fn false true false false W args v W' := by
  have hW0 := hW
  obtain ⟨p, q, hA, hV, rfl, _, _⟩ := hW
  have hr0 : HRel W.heap.size (fun _ => none) ⟨.leaf, 0, 0⟩ W := ⟨⟨fun _ _ h => (nomatch h), fun _ _ h => (nomatch h), fun _ _ _ _ h => (nomatch h), Nat.le_refl _⟩, fun _ _ h => (nomatch h)⟩
  obtain ⟨ρ, h, as, x, l, r, hx⟩ := ho H enc W base args.toList ds p hpos (fun j t v ht hv => hval j t v (by simpa using ht) (by simpa using hv)) hA _ _ hr0 (fun _ _ h => (nomatch h))
  obtain ⟨n, h', hrun⟩ := law h as x hx (l.grow.wm (Nat.le_refl 0))
  refine (acallFn_sound ok hrun r l.heap).mono fun e W' he => ?_
  obtain ⟨ρ', hr', ht, hend⟩ := he
  rcases hend with ⟨v, v', hv, rfl, hrel⟩ | ⟨v, v', hv, _⟩
  case inr => cases hv
  cases hv
  cases hrel
  refine ⟨_, rfl, ?_⟩
  have hbelow : Below W.heap.size W W' := ⟨ht.os, ht.tape, ht.output, ht.size, fun k hk => ht.frame k hk (fun b l' hb ho' => absurd ho' (l.none b l' hb))⟩
  have hgs : gs = [] ∧ q = [] := by
    rw [hvars] at hV
    cases gs with
    | nil => exact ⟨rfl, hV⟩
    | cons _ _ => exact hV.elim
  obtain ⟨rfl, rfl⟩ := hgs
  have hlen := trodAll_length hA
  have hres : s.fn H (ds ++ []) = { results := [.lit (.bool true)], args := ds } := by rw [List.append_nil]; exact hfn H ds (by rw [hlen.2]; simp)
  refine ⟨ds, [], p ++ [], [], p, [], hW0, ?_, ?_, ?_, hbelow.frame _, fun q => by cases q⟩
  · rw [hres, hrt]
    exact ⟨[], [], RowKit.shut_bool hb true, rfl, rfl⟩
  · rw [hres]; exact trodAll_below hl hbelow hts hA
  · rw [hres, hvars]; exact rfl

end Go.Ai

/- From a walk through a law to what its row says. -/
namespace Go.Ai.Sx

def AOk {A : Type} (S : ARep A) (ts : A → List TE) : Prop := ∀ z vs x, S.rel z vs x → okAll z (ts x) vs
theorem aok_nil : AOk aNil (fun _ => []) := fun z vs x h => by
  simp only [okAll]; exact h
theorem aok_cons {A B : Type} {R : Rep A} {S : ARep B} {ts : B → List TE} (h : AOk S ts) : AOk (aCons R S) (fun x => .val R x.1 :: ts x.2) := fun z vs x hr => by
  obtain ⟨a, rest, rfl, h1, h2⟩ := hr
  simp only [okAll, TE.ok]
  exact ⟨a, rest, rfl, h1, h _ _ _ h2⟩

theorem law_run {T : Tab} {g : FuncId} {A : Type} {S : ARep A} {ts : A → List TE} (ha : AOk S ts) (hf : ∀ z vs x, S.rel z vs x → Fun T g (ts x) [.val rBool true]) : ∀ (h : AHeap) (as : List AVal) (x : A), S.rel h.st as x → h.wm ≤ h.next → ∃ n h', acallFn T (aexec T n) g as h = some (.ret (.bool true), h') := by
  intro h as x hr hwm
  obtain ⟨n, r, h', e, us, z', rfl, hl, _, _, _, _, hok, _⟩ := hf _ _ x hr h.st h as (full_sub h) hwm (ha _ _ _ hr)
  match us, hl with
  | [u], _ =>
    simp only [tes, okAll, TE.ok] at hok
    obtain ⟨v, vs, q, h1, _⟩ := hok
    cases q
    have := tv_bool h1
    subst this
    exact ⟨n, h', e⟩
end Go.Ai.Sx

/- An abstract interpreter for the model's code: that a program's tables agree with it. -/
namespace Go.Ai

def Tr.toList {α : Type} : Tr α → List (Nat × α)
  | .leaf => []
  | .node v l r => (match v with | some x => [(0, x)] | none => []) ++ (l.toList.map fun p => (2 * p.1 + 1, p.2)) ++ (r.toList.map fun p => (2 * p.1 + 2, p.2))

theorem Tr.mem_toList {α : Type} : ∀ (t : Tr α) (n : Nat) (x : α), t.get n = some x → (n, x) ∈ t.toList
  | .leaf, n, x, h => by simp [Tr.get] at h
  | .node v l r, 0, x, h => by
    have h : v = some x := h
    subst h
    simp [Tr.toList]
  | .node v l r, m + 1, x, h => by
    rw [Tr.get_succ] at h
    simp only [Tr.toList, List.mem_append, List.mem_map]
    split at h
    · rename_i hm
      exact .inl (.inr ⟨_, Tr.mem_toList l _ _ h, by simp; omega⟩)
    · exact .inr ⟨_, Tr.mem_toList r _ _ h, by simp; omega⟩

def AllP {α : Type} (Q : Nat → α → Prop) : List (Nat × α) → Prop
  | [] => True
  | p :: l => Q p.1 p.2 ∧ AllP Q l

theorem AllP.get {α : Type} {Q : Nat → α → Prop} : ∀ {l : List (Nat × α)}, AllP Q l → ∀ n x, (n, x) ∈ l → Q n x
  | _ :: _, h, n, x, hm => by
    rcases List.mem_cons.1 hm with q | q
    · cases q; exact h.1
    · exact AllP.get h.2 n x q

def TypeOk (P : Program) (t : Nat) (i : TInfo) : Prop :=
  P.underlying t = some i.desc ∧ ∃ j, P.info? t = some j ∧ j.size = i.size ∧ j.bytes = i.bytes ∧
    (∀ z, i.zero = some z → ∃ zv, j.zero = some zv ∧ ofVal zv = some z) ∧ (i.stood = false → P.stoodInHeld t = false) ∧ (i.eqg = false → P.eqGuardType P.depth t = false)

theorem typeOk_of {P : Program} {t : Nat} {j ju : TypeInfo} (h1 : P.info? t = some j) (h2 : P.underlying t = some ju.desc) :
    TypeOk P t { desc := ju.desc, size := j.size, bytes := j.bytes, zero := j.zero.bind ofVal, stood := P.stoodInHeld t, eqg := P.eqGuardType P.depth t } := by
  refine ⟨h2, j, h1, rfl, rfl, fun z hz => ?_, id, id⟩
  exact Option.bind_eq_some_iff.1 hz

def FuncOk (P : Program) (f : Nat) (F : Func) : Prop :=
  P.funcs[f]? = some F ∧ (F.name == "runtime.NumGoroutine") = false ∧ (∀ c, F.body = some c → codeOk F.ntmps c = true)

def bodyOk (F : Func) : Bool := match F.body with | some c => codeOk F.ntmps c | none => true

theorem funcOk_of {P : Program} {f : Nat} {F : Func} (h1 : P.funcs[f]? = some F) (h2 : (F.name == "runtime.NumGoroutine") = false) (h3 : bodyOk F = true) : FuncOk P f F := by
  refine ⟨h1, h2, fun c hc => ?_⟩
  unfold bodyOk at h3
  rw [hc] at h3
  exact h3

theorem tabOk_of {P : Program} {T : Tab} (h1 : AllP (TypeOk P) T.types.toList) (h2 : AllP (FuncOk P) T.funcs.toList) (h3 : P.follows .mixedOrders = true) (h4 : T.consts = .leaf) : T.Ok P :=
  ⟨fun t i h => h1.get t i (Tr.mem_toList _ _ _ h), fun f F h => h2.get f F (Tr.mem_toList _ _ _ h), h3, fun g v h => by rw [h4] at h; cases h⟩

end Go.Ai
