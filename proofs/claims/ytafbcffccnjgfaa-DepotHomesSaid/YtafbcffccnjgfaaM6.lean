/- Fields that are known to be nil: rows that grow from nothing, in boxes. -/
import Derived.Test.YtafbcffccnjgfaaM4
namespace Go.Ai.Sx
def rNil : Rep Unit := ⟨1, false, fun _ cs _ => cs = [.nilslice], fun _ _ _ h => by rw [h]; rfl, fun _ _ _ _ _ h => h, fun _ => rfl, fun _ _ _ h => by rw [h]; rfl⟩
theorem znilN {z : Store} : rNil.rel z [.nilslice] () := rfl
theorem oknilN {z : Store} {x : Unit} {es : List TE} {vs : List AVal} (h : okAll z es vs) : okAll z (.val rNil x :: es) (.nilslice :: vs) := by
 simp only [okAll, TE.ok]
 exact ⟨_, _, rfl, ⟨rfl, rfl⟩, h⟩
section
variable {C : Ctx} {Γ : Env} {L : Own}
end
end Go.Ai.Sx
