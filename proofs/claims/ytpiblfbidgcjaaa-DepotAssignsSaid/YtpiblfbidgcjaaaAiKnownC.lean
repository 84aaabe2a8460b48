/- The examples of this seat's laws, settled once. -/
import Derived.Test.YtpiblfbidgcjaaaAiTabC
import Derived.Test.YtpiblfbidgcjaaaAiSound
namespace Go.Ai.TabYtpiblfbidgcjaaa
open Go Go.Ai Go.Proofs

def isTrue : Option (CRes × AHeap) → Bool
  | some (.ret (.bool true), _) => true
  | _ => false

theorem isTrue_of {x : Option (CRes × AHeap)} (h : isTrue x = true) : ∃ h', x = some (.ret (.bool true), h') := by
  unfold isTrue at h
  split at h
  · exact ⟨_, rfl⟩
  · cases h

theorem known : isTrue (acallFn tab (aexec tab 300) 12 [] ⟨.leaf, 0, 0⟩) = true := by kernel_rfl

noncomputable def ktab : Tab := { tab with consts := tab.consts.set 12 (.bool true) }
theorem ktab_ok : ktab.Ok Try.prog := by
  obtain ⟨h', h⟩ := isTrue_of known
  exact tab_ok.const h

end Go.Ai.TabYtpiblfbidgcjaaa
