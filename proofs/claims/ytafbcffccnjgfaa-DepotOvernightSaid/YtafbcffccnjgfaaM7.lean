/- Fields that are known to be nil: rows that grow from nothing,in boxes. -/
import Derived.Test.YtafbcffccnjgfaaM5
namespace Go.Ai.Sx
def rNil:Rep Unit := ⟨1,false,fun _ cs _ => cs = [.nilslice],fun _ _ _ h => by rw [h]; rfl,fun _ _ _ _ _ h => h,fun _ => rfl,fun _ _ _ h => by rw [h]; rfl⟩
theorem znilN {z:Store}:rNil.rel z [.nilslice] () := rfl
theorem oknilN {z:Store} {x:Unit} {es:List TE} {vs:List AVal} (h:okAll z es vs):okAll z (.val rNil x :: es) (.nilslice :: vs) := by
 simp only [okAll,TE.ok]
 exact ⟨_,_,rfl,⟨rfl,rfl⟩,h⟩
section
variable {C:Ctx} {Γ:Env} {L:Own}
theorem zx30 {b:Nat} {es es':List TE}:∀ (L:Own) (m:Nat),L[m]? = some (.ptr b 0,.box es) → blks (L.set m (.ptr b 0,.box es')) = blks L := by
 intro L
 induction L with
 | nil => intro m h; simp at h
 | cons p L ih =>
  intro m h
  cases m with
  | zero => simp at h; subst h; rw [List.set_cons_zero,zq1,zq1]; rfl
  | succ m => rw [List.set_cons_succ,zq1,zq1,ih m (by simpa using h)]
theorem StZ.cell {z:Store} {fr:AFrame} {h:AHeap} {b q:Nat} {es:List TE} {e e':TE} (s:StZ C Γ L z fr h) (m:Nat) {L':Own} (hm:L[m]? = some (.ptr b 0,.box es)) (hq:es[q]? = some e) (hi:∀ v,e.ok z v → e'.ok z v) (hL:setAt L m (.ptr b 0,.box (es.set q e')) = some L'):StZ C Γ L' z fr h := by
 have hob := s.own.ok _ (List.mem_of_getElem? hm)
 simp only [Obj.ok] at hob
 obtain ⟨b',cells,q',g1,g2,g3⟩ := hob
 cases q'
 obtain ⟨c,hc1,hc2⟩ := zl12 g2 hq
 have hset:cells.set q c = cells := by
  apply List.ext_getElem?
  intro i
  rw [List.getElem?_set]
  split
  ·rename_i e; subst e
   rw [if_pos (List.getElem?_eq_some_iff.1 hc1).1,hc1]
  ·rfl
 have hobj:(Obj.box (es.set q e')).ok z h (.ptr b 0) := by
  refine ⟨b,cells,rfl,g1, ?_,g3⟩
  rw [← hset]; exact zo8 g2 (hi _ hc2)
 obtain ⟨rfl,hlt⟩ := zf10 hL
 have hmem:∀ p ∈ L.set m (.ptr b 0,.box (es.set q e')),p = (.ptr b 0,.box (es.set q e')) ∨ p ∈ L := by
  intro p hp
  rcases List.mem_or_eq_of_mem_set hp with e | e
  ·exact .inr e
  ·exact .inl e
 refine { s with own := ⟨fun p hp => ?_,fun p hp => ?_,by rw [zx30 L m hm]; exact s.own.nodup⟩ }
 ·rcases hmem p hp with rfl | hp
  ·exact hobj
  ·exact s.own.ok p hp
 ·rcases hmem p hp with rfl | hp
  ·intro c' hc'
   exact s.own.out _ (List.mem_of_getElem? hm) c' (by simpa [blkE,blkO] using hc')
  ·exact s.own.out p hp
theorem zh34 {b q:Nat} {es:List TE} {e e':TE} (m:Nat) {L':Own} (hm:L[m]? = some (.ptr b 0,.box es)) (hq:es[q]? = some e) (hi:∀ z v,e.ok z v → e'.ok z v) (hL:setAt L m (.ptr b 0,.box (es.set q e')) = some L') :
    ∀ z fr h,StZ C Γ L z fr h → ∃ z',z.le z' ∧ StZ C Γ L' z' fr h := fun z _ _ s => ⟨z,.refl _,s.cell m hm hq (hi z) hL⟩
theorem zi34 {z:Store} {v:AVal} {x:Unit} (h:TV rNil z v x):v = .nilslice := by
 have h1 := h.rel
 have h2 := h.agg
 cases v <;> simp_all [rNil,AVal.cells,AVal.isAgg]
theorem zy30:∀ z v,(TE.val rNil ()).ok z v → (TE.raw .nilslice).ok z v := fun z v h => by
 simp only [TE.ok] at h ⊢
 exact zi34 h
theorem zp16 {b q:Nat} {es:List TE} (m:Nat) {L':Own} (hm:L[m]? = some (.ptr b 0,.box es)) (hq:es[q]? = some (.val rNil ())) (hL:setAt L m (.ptr b 0,.box (es.set q (.raw .nilslice))) = some L') :
    ∀ z fr h,StZ C Γ L z fr h → ∃ z',z.le z' ∧ StZ C Γ L' z' fr h := zh34 m hm hq zy30 hL
end
end Go.Ai.Sx
