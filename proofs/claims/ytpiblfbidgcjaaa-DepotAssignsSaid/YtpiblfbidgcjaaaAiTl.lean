/- From a walk through a law to what its row says. -/
import Derived.Test.YtpiblfbidgcjaaaAiSd
import Derived.Test.YtpiblfbidgcjaaaAiTop
namespace Go.Ai.Sx

def AOk {A : Type} (S : ARep A) (ts : A → List TE) : Prop := ∀ z vs x, S.rel z vs x → okAll z (ts x) vs
theorem aok_nil : AOk aNil (fun _ => []) := fun z vs x h => by
  simp only [okAll]; exact h
theorem aok_cons {A B : Type} {R : Rep A} {S : ARep B} {ts : B → List TE} (h : AOk S ts) : AOk (aCons R S) (fun x => .val R x.1 :: ts x.2) := fun z vs x hr => by
  obtain ⟨a, rest, rfl, h1, h2⟩ := hr
  simp only [okAll, TE.ok]
  exact ⟨a, rest, rfl, h1, h _ _ _ h2⟩

theorem law_run {T : Tab} {g : FuncId} {A : Type} {S : ARep A} {ts : A → List TE} (ha : AOk S ts) (hf : ∀ z vs x, S.rel z vs x → Fun T g (ts x) [.val rBool true]) : ∀ (h : AHeap) (as : List AVal) (x : A), S.rel h.st as x → h.wm ≤ h.next → ∃ n h', acallFn T (aexec T n) g as h = some (.ret (.bool true), h') := by
  intro h as x hr hwm
  obtain ⟨n, r, h', e, us, z', rfl, hl, _, _, _, _, hok, _⟩ := hf _ _ x hr h.st h as (full_sub h) hwm (ha _ _ _ hr)
  match us, hl with
  | [u], _ =>
    simp only [tes, okAll, TE.ok] at hok
    obtain ⟨v, vs, q, h1, _⟩ := hok
    cases q
    have := tv_bool h1
    subst this
    exact ⟨n, h', e⟩
end Go.Ai.Sx
