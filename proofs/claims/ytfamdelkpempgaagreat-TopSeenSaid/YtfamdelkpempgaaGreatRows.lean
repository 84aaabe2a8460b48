/-
  No cell of these rows narrows 'for every input' (looked for: loops, veiled, ifaces, maps, wideKeys, modest, calm, conditions, laid).
  DERIVED. THE GIVEN ROWS OF THIS SEAT. 5 by the template 'for every input the law returns true; each argument reads behind the call as it read before'; 0 by the template 'total and deterministic' (their statements: YtfamdelkpempgaaGreatTotals.lean).
  GIVEN WITH THE SEED: the statements are not yours to turn. If you find one false, say at which input.
  Laid BY PROGRAM, IN A SANDBOX (cutbox-rows.mjs): the forced cells as the released guide's own fill.sh prints them over the translation a8cb683f4a485cc8… (all of the seat's roots in one cut). By AI agents, Wed Nov 11 2026. No macro, syntax, notation, axiom, sorry.
-/
import Derived.Test.YtfamdelkpempgaaGreatChecked
import GoSem.Claim
import GoSem.ClaimJoined
import GoSem.ClaimMapViews
import Derived.JoinedTies
import Derived.KernelRfl
namespace Go.Proofs.YtfamdelkpempgaaGreat
/- THE CELL 'sum', in the pinned program and in every row, IS THE sha256 OF THE DUMP (.gsa) THAT YtfamdelkpempgaaGreatProg.lean LOADS. Nothing in Lean hashes anything: it is a label: what it is worth is what the hold of that sum in a sandbox is worth. -/
noncomputable def Tryz.pinned : Pinned := { name := "ytfamdelkpempgaagreat", sum := "a8cb683f4a485cc8e0b4d4a31133b1b4419470f6b980b2a4a299d6b143da8423", checked := Tryz.checked }
namespace Rows
def none {H : Type} : Left H := { results := [], args := [] }

/-- 'tramlinetop.TopNight': WHATEVER THE INPUT: true; the input reads as it did. -/
def topNightSpec : ChangeSpec := { name := "topNight", fn := fun _ => fun
  | [d] => { results := [.lit (.bool true)], args := [d] }
  | _ => none }
def topNightRow : OpenClaim := { program := "ytfamdelkpempgaagreat", sum := "a8cb683f4a485cc8e0b4d4a31133b1b4419470f6b980b2a4a299d6b143da8423", func := "tramline/tramlinetop.TopNight", spec := "topNight", inPlace := ["math.sqrt"], unfollowed := true, recurses := true, plainKeys := false, apart := false }
def TopNightSaid : Prop := topNightRow.holds Tryz.pinned (OpenSpec.ofChange topNightSpec)

/-- ITS FALSE NEIGHBOUR: 'it returns false'. Refute it at one input. -/
def topNightWrong : ChangeSpec := { name := "topNight", fn := fun _ => fun
  | [d] => { results := [.lit (.bool false)], args := [d] }
  | _ => none }
def TopNightWrongFalsely : Prop := topNightRow.holds Tryz.pinned (OpenSpec.ofChange topNightWrong)

/-- 'tramlinetop.TopSeen': WHATEVER THE INPUT: true; the input reads as it did. -/
def topSeenSpec : ChangeSpec := { name := "topSeen", fn := fun _ => fun
  | [d1, d2, d3, d4] => { results := [.lit (.bool true)], args := [d1, d2, d3, d4] }
  | _ => none }
def topSeenRow : OpenClaim := { program := "ytfamdelkpempgaagreat", sum := "a8cb683f4a485cc8e0b4d4a31133b1b4419470f6b980b2a4a299d6b143da8423", func := "tramline/tramlinetop.TopSeen", spec := "topSeen", inPlace := ["math.sqrt"], unfollowed := true, recurses := true, plainKeys := false, apart := false }
def TopSeenSaid : Prop := topSeenRow.holds Tryz.pinned (OpenSpec.ofChange topSeenSpec)

/-- ITS FALSE NEIGHBOUR: 'it returns false'. Refute it at one input. -/
def topSeenWrong : ChangeSpec := { name := "topSeen", fn := fun _ => fun
  | [d1, d2, d3, d4] => { results := [.lit (.bool false)], args := [d1, d2, d3, d4] }
  | _ => none }
def TopSeenWrongFalsely : Prop := topSeenRow.holds Tryz.pinned (OpenSpec.ofChange topSeenWrong)

/-- 'tramlinetop.TopDriven': WHATEVER THE INPUT: true; the input reads as it did. -/
def topDrivenSpec : ChangeSpec := { name := "topDriven", fn := fun _ => fun
  | [d1, d2, d3] => { results := [.lit (.bool true)], args := [d1, d2, d3] }
  | _ => none }
def topDrivenRow : OpenClaim := { program := "ytfamdelkpempgaagreat", sum := "a8cb683f4a485cc8e0b4d4a31133b1b4419470f6b980b2a4a299d6b143da8423", func := "tramline/tramlinetop.TopDriven", spec := "topDriven", inPlace := ["math.sqrt"], unfollowed := true, recurses := true, plainKeys := false, apart := false }
def TopDrivenSaid : Prop := topDrivenRow.holds Tryz.pinned (OpenSpec.ofChange topDrivenSpec)

/-- ITS FALSE NEIGHBOUR: 'it returns false'. Refute it at one input. -/
def topDrivenWrong : ChangeSpec := { name := "topDriven", fn := fun _ => fun
  | [d1, d2, d3] => { results := [.lit (.bool false)], args := [d1, d2, d3] }
  | _ => none }
def TopDrivenWrongFalsely : Prop := topDrivenRow.holds Tryz.pinned (OpenSpec.ofChange topDrivenWrong)

/-- 'tramlinetop.TopStillRuns': WHATEVER THE INPUT: true; the input reads as it did. -/
def topStillRunsSpec : ChangeSpec := { name := "topStillRuns", fn := fun _ => fun
  | [d1, d2, d3] => { results := [.lit (.bool true)], args := [d1, d2, d3] }
  | _ => none }
def topStillRunsRow : OpenClaim := { program := "ytfamdelkpempgaagreat", sum := "a8cb683f4a485cc8e0b4d4a31133b1b4419470f6b980b2a4a299d6b143da8423", func := "tramline/tramlinetop.TopStillRuns", spec := "topStillRuns", inPlace := ["math.sqrt"], unfollowed := true, recurses := true, plainKeys := false, apart := false }
def TopStillRunsSaid : Prop := topStillRunsRow.holds Tryz.pinned (OpenSpec.ofChange topStillRunsSpec)

/-- ITS FALSE NEIGHBOUR: 'it returns false'. Refute it at one input. -/
def topStillRunsWrong : ChangeSpec := { name := "topStillRuns", fn := fun _ => fun
  | [d1, d2, d3] => { results := [.lit (.bool false)], args := [d1, d2, d3] }
  | _ => none }
def TopStillRunsWrongFalsely : Prop := topStillRunsRow.holds Tryz.pinned (OpenSpec.ofChange topStillRunsWrong)

/-- 'tramlinetop.TopKept': WHATEVER THE INPUT: true; the input reads as it did. -/
def topKeptSpec : ChangeSpec := { name := "topKept", fn := fun _ => fun
  | [d1, d2, d3] => { results := [.lit (.bool true)], args := [d1, d2, d3] }
  | _ => none }
def topKeptRow : OpenClaim := { program := "ytfamdelkpempgaagreat", sum := "a8cb683f4a485cc8e0b4d4a31133b1b4419470f6b980b2a4a299d6b143da8423", func := "tramline/tramlinetop.TopKept", spec := "topKept", inPlace := ["math.sqrt"], unfollowed := true, recurses := true, plainKeys := false, apart := false }
def TopKeptSaid : Prop := topKeptRow.holds Tryz.pinned (OpenSpec.ofChange topKeptSpec)

/-- ITS FALSE NEIGHBOUR: 'it returns false'. Refute it at one input. -/
def topKeptWrong : ChangeSpec := { name := "topKept", fn := fun _ => fun
  | [d1, d2, d3] => { results := [.lit (.bool false)], args := [d1, d2, d3] }
  | _ => none }
def TopKeptWrongFalsely : Prop := topKeptRow.holds Tryz.pinned (OpenSpec.ofChange topKeptWrong)

/- THE SECOND FORM. 'bulk': how many values and letters a reading holds, each counted each time it is reached (what is shared counts as often as it is met; a slice's spare places count too). A statement '..UptoSaid' is the law's where the arguments, and the package variables that the reading takes, are together of bulk at most 1048576: NARROWER than '..Said'. Prove '..Said' where nothing that the law and all that it calls make is longer than what came in: it says more and counts as full. Else prove '..UptoSaid'. A law counts once. -/
mutual
def uptoBulk {H : Type} : DataW H → Nat
  | .lit (.string bytes) => bytes.length + 1
  | .lit _ => 1
  | .nil => 1
  | .ptr d => uptoBulk d + 1
  | .slice elems spare => uptoBulkAll elems + uptoBulkAll spare + 1
  | .agg parts => uptoBulkAll parts + 1
  | .iface _ d => uptoBulk d + 1
  | .map entries => uptoBulkEntries entries + 1
  | .held _ => 1
def uptoBulkAll {H : Type} : List (DataW H) → Nat
  | [] => 0
  | d :: r => uptoBulk d + uptoBulkAll r
def uptoBulkEntries {H : Type} : List (Lit × DataW H) → Nat
  | [] => 0
  | x :: r => uptoBulkEntry x + uptoBulkEntries r
def uptoBulkEntry {H : Type} : Lit × DataW H → Nat
  | (.string bytes, d) => bytes.length + uptoBulk d + 1
  | (_, d) => uptoBulk d + 1
 end
def uptoSmall : (H : Type) → List (DataW H) → Bool := fun _ ds => decide (uptoBulkAll ds ≤ 1048576)
def OpenSpec.upto (s : _root_.Go.ChangeSpec) : _root_.Go.OpenSpec := { _root_.Go.OpenSpec.ofChange s with cond := some uptoSmall }

/-- 'tramlinetop.TopNight', WHERE WHAT IT READS IS OF BULK AT MOST 1048576: true; the input reads as it did. -/
def topNightUptoRow : OpenClaim := { program := "ytfamdelkpempgaagreat", sum := "a8cb683f4a485cc8e0b4d4a31133b1b4419470f6b980b2a4a299d6b143da8423", func := "tramline/tramlinetop.TopNight", spec := "topNight", inPlace := ["math.sqrt"], unfollowed := true, recurses := true, plainKeys := false, apart := false, narrowed := true }
def TopNightUptoSaid : Prop := topNightUptoRow.holds Tryz.pinned (OpenSpec.upto topNightSpec)

/-- 'tramlinetop.TopSeen', WHERE WHAT IT READS IS OF BULK AT MOST 1048576: true; the input reads as it did. -/
def topSeenUptoRow : OpenClaim := { program := "ytfamdelkpempgaagreat", sum := "a8cb683f4a485cc8e0b4d4a31133b1b4419470f6b980b2a4a299d6b143da8423", func := "tramline/tramlinetop.TopSeen", spec := "topSeen", inPlace := ["math.sqrt"], unfollowed := true, recurses := true, plainKeys := false, apart := false, narrowed := true }
def TopSeenUptoSaid : Prop := topSeenUptoRow.holds Tryz.pinned (OpenSpec.upto topSeenSpec)

/-- 'tramlinetop.TopDriven', WHERE WHAT IT READS IS OF BULK AT MOST 1048576: true; the input reads as it did. -/
def topDrivenUptoRow : OpenClaim := { program := "ytfamdelkpempgaagreat", sum := "a8cb683f4a485cc8e0b4d4a31133b1b4419470f6b980b2a4a299d6b143da8423", func := "tramline/tramlinetop.TopDriven", spec := "topDriven", inPlace := ["math.sqrt"], unfollowed := true, recurses := true, plainKeys := false, apart := false, narrowed := true }
def TopDrivenUptoSaid : Prop := topDrivenUptoRow.holds Tryz.pinned (OpenSpec.upto topDrivenSpec)

/-- 'tramlinetop.TopStillRuns', WHERE WHAT IT READS IS OF BULK AT MOST 1048576: true; the input reads as it did. -/
def topStillRunsUptoRow : OpenClaim := { program := "ytfamdelkpempgaagreat", sum := "a8cb683f4a485cc8e0b4d4a31133b1b4419470f6b980b2a4a299d6b143da8423", func := "tramline/tramlinetop.TopStillRuns", spec := "topStillRuns", inPlace := ["math.sqrt"], unfollowed := true, recurses := true, plainKeys := false, apart := false, narrowed := true }
def TopStillRunsUptoSaid : Prop := topStillRunsUptoRow.holds Tryz.pinned (OpenSpec.upto topStillRunsSpec)

/-- 'tramlinetop.TopKept', WHERE WHAT IT READS IS OF BULK AT MOST 1048576: true; the input reads as it did. -/
def topKeptUptoRow : OpenClaim := { program := "ytfamdelkpempgaagreat", sum := "a8cb683f4a485cc8e0b4d4a31133b1b4419470f6b980b2a4a299d6b143da8423", func := "tramline/tramlinetop.TopKept", spec := "topKept", inPlace := ["math.sqrt"], unfollowed := true, recurses := true, plainKeys := false, apart := false, narrowed := true }
def TopKeptUptoSaid : Prop := topKeptUptoRow.holds Tryz.pinned (OpenSpec.upto topKeptSpec)

end Rows
end Go.Proofs.YtfamdelkpempgaaGreat
