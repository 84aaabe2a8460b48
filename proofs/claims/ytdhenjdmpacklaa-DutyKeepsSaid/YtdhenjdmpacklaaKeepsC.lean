/- The statement DutyKeeps: the theorem of duties holds, for every input; no condition. -/
import Derived.Test.YtdhenjdmpacklaaM7
import Derived.Test.YtdhenjdmpacklaaM10
import Derived.Test.YtdhenjdmpacklaaWalkDutyKeepsC
import Derived.Test.YtdhenjdmpacklaaM5
namespace Go.Proofs.Ytdhenjdmpacklaa
open Go Go.Ai Go.Ai.Sx Go.Ai.TabYtdhenjdmpacklaa

def aKeeps : ARep (List Task × Yard × List (List Int) × WorkRules × List Duty × Int × Unit) := aCons (rSlice rTask) (aCons rYard (aCons (rSlice (rSlice (rInt .i64))) (aCons rWorkRules (aCons (rSlice rDuty) (aCons (rInt .i64) aNil)))))
theorem oKeeps : OpensA Try.prog [22, 26, 23, 42, 44, 3] aKeeps := opensA_cons o22 (by kernel_rfl) (opensA_cons o26 (by kernel_rfl) (opensA_cons o23 (by kernel_rfl) (opensA_cons o42 (by kernel_rfl) (opensA_cons o44 (by kernel_rfl) (opensA_cons o3 (by kernel_rfl) opensA_nil)))))
theorem plansIn {z : Store} {vs : List AVal} {x : List Task × Yard × List (List Int) × WorkRules × List Duty × Int × Unit} (h : aKeeps.rel z vs x) : x.2.2.1.length ≤ 9223372036854775807 := by
 obtain ⟨_, _, _, _, _, _, _, _, _, _, _, h1, _⟩ := h
 exact (tv_slice h1).1

theorem otherIn {z : Store} {vs : List AVal} {x : List Task × Yard × List (List Int) × WorkRules × List Duty × Int × Unit} (h : aKeeps.rel z vs x) : ∀ d ∈ x.2.2.2.2.1, d.1.length ≤ 9223372036854775807 := by
 obtain ⟨_, _, _, _, _, _, _, _, _, _, _, _, _, _, _, _, _, _, _, h1, _⟩ := h
 intro d hd
 rcases (tv_slice h1).2 with ⟨_, e⟩ | ⟨_, _, _, _, e, _⟩ | ⟨_, _, _, _, _, _, _, _, _, hx⟩
 ·rw [e] at hd; cases hd
 ·rw [e] at hd; cases hd
 ·obtain ⟨i, hi, rfl⟩ := List.getElem_of_mem hd
  obtain ⟨_, _, _, ⟨_, _, h2⟩, _⟩ := hx i _ (List.getElem?_eq_getElem hi)
  exact h2.1

set_option maxRecDepth 100000 in
theorem keeps_holds : Rows.DutyKeepsSaid :=
 OpenClaim.holds_of_wide 9 Try.f9 rfl rfl rfl rfl rfl rfl rfl ⟨rfl, rfl, rfl, rfl, rfl⟩ rfl rfl rfl rfl rfl (by kernel_rfl) Try.func9 (by kernel_rfl)
  (of_decide_eq_true (by kernel_rfl)) (by unfold Func.isWrapper; first | (rw [if_pos (by decide +kernel)]; kernel_rfl) | (rw [if_neg (by decide +kernel)]; exact ⟨rfl, rfl⟩))
  (fun os started H enc _ => by
   show ReturnsInHanded {} Try.checked os 9 .any (Rows.dutyKeepsSpec.pre6 enc Try.prog Try.f9 Rows.dutyKeepsRow.domain false) (Rows.dutyKeepsSpec.post enc Try.prog Try.f9 false true false false)
   refine returnsInHanded_of_change_shaped (C := Try.checked) own started (by kernel_rfl) Try.func9
    (ChangeSpec.witness6 (enc := enc) (C := Try.checked) false ⟨#[], #[.slice none 0 0, .agg #[.slice none 0 0, .int .i64 0, .slice none 0 0], .slice none 0 0, .agg #[.int .i64 0, .int .i64 0, .int .i64 0, .int .i64 0, .int .i64 0, .int .i64 0], .slice none 0 0, .int .i64 0], []⟩ 9 (by kernel_rfl) (by kernel_rfl) (by kernel_rfl) (by kernel_rfl)) ?_
   intro W base args ds gs before hval hW _ _ hsh _
   exact law_contract (C := Try.checked) ktab_ok laidOut rfl (tb := 4) (by kernel_rfl) Try.underlying4 (by rw [Try.params9]; decide +kernel) (fun H ds hd => by
    match ds, hd with
    | [_, _, _, _, _, _], _ => rfl) (by rw [Try.params9]; exact oKeeps)
    (law_run (S := aKeeps) (aok_cons (aok_cons (aok_cons (aok_cons (aok_cons (aok_cons aok_nil)))))) (fun z vs x hx => i9.ok _ (law_keeps x.1 x.2.1 x.2.2.1 x.2.2.2.1 x.2.2.2.2.1 x.2.2.2.2.2.1 (plansIn hx) (otherIn hx)))) (notEmpty hsh) hval hW)
end Go.Proofs.Ytdhenjdmpacklaa
