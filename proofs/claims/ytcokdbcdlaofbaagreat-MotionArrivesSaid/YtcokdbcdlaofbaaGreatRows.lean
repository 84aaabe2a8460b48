/-
  No cell of these rows narrows 'for every input' (looked for: loops, veiled, ifaces, maps, wideKeys, modest, calm, conditions, laid).
  DERIVED. THE GIVEN ROWS OF THIS SEAT. 10 by the template 'for every input the law returns true; each argument reads behind the call as it read before'; 0 by the template 'total and deterministic' (their statements: YtcokdbcdlaofbaaGreatTotals.lean).
  GIVEN WITH THE SEED: the statements are not yours to turn. If you find one false, say at which input.
  Laid BY PROGRAM, IN A SANDBOX (cutbox-rows.mjs): the forced cells as the released guide's own fill.sh prints them over the translation 31ee949e79319aae… (all of the seat's roots in one cut). By AI agents, Wed Nov 11 2026. No macro, syntax, notation, axiom, sorry.
-/
import Derived.Test.YtcokdbcdlaofbaaGreatChecked
import GoSem.Claim
import GoSem.ClaimJoined
import GoSem.ClaimMapViews
import Derived.JoinedTies
import Derived.KernelRfl
namespace Go.Proofs.YtcokdbcdlaofbaaGreat
/- THE CELL 'sum', in the pinned program and in every row, IS THE sha256 OF THE DUMP (.gsa) THAT YtcokdbcdlaofbaaGreatProg.lean LOADS. Nothing in Lean hashes anything: it is a label: what it is worth is what the hold of that sum in a sandbox is worth. -/
noncomputable def Tryz.pinned : Pinned := { name := "ytcokdbcdlaofbaagreat", sum := "31ee949e79319aaecdd17e5a25727efaa23b60a68f201dd6bf4d95a115b0d2b9", checked := Tryz.checked }
namespace Rows
def none {H : Type} : Left H := { results := [], args := [] }

/-- 'tramlinelaw03.MotionBalances': WHATEVER THE INPUT: true; the input reads as it did. -/
def motionBalancesSpec : ChangeSpec := { name := "motionBalances", fn := fun _ => fun
  | [d1, d2, d3, d4, d5, d6] => { results := [.lit (.bool true)], args := [d1, d2, d3, d4, d5, d6] }
  | _ => none }
def motionBalancesRow : OpenClaim := { program := "ytcokdbcdlaofbaagreat", sum := "31ee949e79319aaecdd17e5a25727efaa23b60a68f201dd6bf4d95a115b0d2b9", func := "tramline/tramlinelaw03.MotionBalances", spec := "motionBalances", inPlace := ["math.sqrt"], unfollowed := true, recurses := true, plainKeys := false, apart := false }
def MotionBalancesSaid : Prop := motionBalancesRow.holds Tryz.pinned (OpenSpec.ofChange motionBalancesSpec)

/-- ITS FALSE NEIGHBOUR: 'it returns false'. Refute it at one input. -/
def motionBalancesWrong : ChangeSpec := { name := "motionBalances", fn := fun _ => fun
  | [d1, d2, d3, d4, d5, d6] => { results := [.lit (.bool false)], args := [d1, d2, d3, d4, d5, d6] }
  | _ => none }
def MotionBalancesWrongFalsely : Prop := motionBalancesRow.holds Tryz.pinned (OpenSpec.ofChange motionBalancesWrong)

/-- 'tramlinelaw03.MotionBrakes': WHATEVER THE INPUT: true; the input reads as it did. -/
def motionBrakesSpec : ChangeSpec := { name := "motionBrakes", fn := fun _ => fun
  | [d1, d2, d3, d4] => { results := [.lit (.bool true)], args := [d1, d2, d3, d4] }
  | _ => none }
def motionBrakesRow : OpenClaim := { program := "ytcokdbcdlaofbaagreat", sum := "31ee949e79319aaecdd17e5a25727efaa23b60a68f201dd6bf4d95a115b0d2b9", func := "tramline/tramlinelaw03.MotionBrakes", spec := "motionBrakes", inPlace := ["math.sqrt"], unfollowed := true, recurses := true, plainKeys := false, apart := false }
def MotionBrakesSaid : Prop := motionBrakesRow.holds Tryz.pinned (OpenSpec.ofChange motionBrakesSpec)

/-- ITS FALSE NEIGHBOUR: 'it returns false'. Refute it at one input. -/
def motionBrakesWrong : ChangeSpec := { name := "motionBrakes", fn := fun _ => fun
  | [d1, d2, d3, d4] => { results := [.lit (.bool false)], args := [d1, d2, d3, d4] }
  | _ => none }
def MotionBrakesWrongFalsely : Prop := motionBrakesRow.holds Tryz.pinned (OpenSpec.ofChange motionBrakesWrong)

/-- 'tramlinelaw03.MotionSights': WHATEVER THE INPUT: true; the input reads as it did. -/
def motionSightsSpec : ChangeSpec := { name := "motionSights", fn := fun _ => fun
  | [d1, d2, d3, d4] => { results := [.lit (.bool true)], args := [d1, d2, d3, d4] }
  | _ => none }
def motionSightsRow : OpenClaim := { program := "ytcokdbcdlaofbaagreat", sum := "31ee949e79319aaecdd17e5a25727efaa23b60a68f201dd6bf4d95a115b0d2b9", func := "tramline/tramlinelaw03.MotionSights", spec := "motionSights", inPlace := ["math.sqrt"], unfollowed := true, recurses := true, plainKeys := false, apart := false }
def MotionSightsSaid : Prop := motionSightsRow.holds Tryz.pinned (OpenSpec.ofChange motionSightsSpec)

/-- ITS FALSE NEIGHBOUR: 'it returns false'. Refute it at one input. -/
def motionSightsWrong : ChangeSpec := { name := "motionSights", fn := fun _ => fun
  | [d1, d2, d3, d4] => { results := [.lit (.bool false)], args := [d1, d2, d3, d4] }
  | _ => none }
def MotionSightsWrongFalsely : Prop := motionSightsRow.holds Tryz.pinned (OpenSpec.ofChange motionSightsWrong)

/-- 'tramlinelaw03.MotionStops': WHATEVER THE INPUT: true; the input reads as it did. -/
def motionStopsSpec : ChangeSpec := { name := "motionStops", fn := fun _ => fun
  | [d1, d2, d3, d4] => { results := [.lit (.bool true)], args := [d1, d2, d3, d4] }
  | _ => none }
def motionStopsRow : OpenClaim := { program := "ytcokdbcdlaofbaagreat", sum := "31ee949e79319aaecdd17e5a25727efaa23b60a68f201dd6bf4d95a115b0d2b9", func := "tramline/tramlinelaw03.MotionStops", spec := "motionStops", inPlace := ["math.sqrt"], unfollowed := true, recurses := true, plainKeys := false, apart := false }
def MotionStopsSaid : Prop := motionStopsRow.holds Tryz.pinned (OpenSpec.ofChange motionStopsSpec)

/-- ITS FALSE NEIGHBOUR: 'it returns false'. Refute it at one input. -/
def motionStopsWrong : ChangeSpec := { name := "motionStops", fn := fun _ => fun
  | [d1, d2, d3, d4] => { results := [.lit (.bool false)], args := [d1, d2, d3, d4] }
  | _ => none }
def MotionStopsWrongFalsely : Prop := motionStopsRow.holds Tryz.pinned (OpenSpec.ofChange motionStopsWrong)

/-- 'tramlinelaw03.MotionGrips': WHATEVER THE INPUT: true; the input reads as it did. -/
def motionGripsSpec : ChangeSpec := { name := "motionGrips", fn := fun _ => fun
  | [d1, d2, d3, d4, d5, d6] => { results := [.lit (.bool true)], args := [d1, d2, d3, d4, d5, d6] }
  | _ => none }
def motionGripsRow : OpenClaim := { program := "ytcokdbcdlaofbaagreat", sum := "31ee949e79319aaecdd17e5a25727efaa23b60a68f201dd6bf4d95a115b0d2b9", func := "tramline/tramlinelaw03.MotionGrips", spec := "motionGrips", inPlace := ["math.sqrt"], unfollowed := true, recurses := true, plainKeys := false, apart := false }
def MotionGripsSaid : Prop := motionGripsRow.holds Tryz.pinned (OpenSpec.ofChange motionGripsSpec)

/-- ITS FALSE NEIGHBOUR: 'it returns false'. Refute it at one input. -/
def motionGripsWrong : ChangeSpec := { name := "motionGrips", fn := fun _ => fun
  | [d1, d2, d3, d4, d5, d6] => { results := [.lit (.bool false)], args := [d1, d2, d3, d4, d5, d6] }
  | _ => none }
def MotionGripsWrongFalsely : Prop := motionGripsRow.holds Tryz.pinned (OpenSpec.ofChange motionGripsWrong)

/-- 'tramlinelaw03.MotionArrives': WHATEVER THE INPUT: true; the input reads as it did. -/
def motionArrivesSpec : ChangeSpec := { name := "motionArrives", fn := fun _ => fun
  | [d1, d2, d3, d4, d5, d6] => { results := [.lit (.bool true)], args := [d1, d2, d3, d4, d5, d6] }
  | _ => none }
def motionArrivesRow : OpenClaim := { program := "ytcokdbcdlaofbaagreat", sum := "31ee949e79319aaecdd17e5a25727efaa23b60a68f201dd6bf4d95a115b0d2b9", func := "tramline/tramlinelaw03.MotionArrives", spec := "motionArrives", inPlace := ["math.sqrt"], unfollowed := true, recurses := true, plainKeys := false, apart := false }
def MotionArrivesSaid : Prop := motionArrivesRow.holds Tryz.pinned (OpenSpec.ofChange motionArrivesSpec)

/-- ITS FALSE NEIGHBOUR: 'it returns false'. Refute it at one input. -/
def motionArrivesWrong : ChangeSpec := { name := "motionArrives", fn := fun _ => fun
  | [d1, d2, d3, d4, d5, d6] => { results := [.lit (.bool false)], args := [d1, d2, d3, d4, d5, d6] }
  | _ => none }
def MotionArrivesWrongFalsely : Prop := motionArrivesRow.holds Tryz.pinned (OpenSpec.ofChange motionArrivesWrong)

/-- 'tramlinelaw03.MotionSteps': WHATEVER THE INPUT: true; the input reads as it did. -/
def motionStepsSpec : ChangeSpec := { name := "motionSteps", fn := fun _ => fun
  | [d1, d2, d3, d4, d5] => { results := [.lit (.bool true)], args := [d1, d2, d3, d4, d5] }
  | _ => none }
def motionStepsRow : OpenClaim := { program := "ytcokdbcdlaofbaagreat", sum := "31ee949e79319aaecdd17e5a25727efaa23b60a68f201dd6bf4d95a115b0d2b9", func := "tramline/tramlinelaw03.MotionSteps", spec := "motionSteps", inPlace := ["math.sqrt"], unfollowed := true, recurses := true, plainKeys := false, apart := false }
def MotionStepsSaid : Prop := motionStepsRow.holds Tryz.pinned (OpenSpec.ofChange motionStepsSpec)

/-- ITS FALSE NEIGHBOUR: 'it returns false'. Refute it at one input. -/
def motionStepsWrong : ChangeSpec := { name := "motionSteps", fn := fun _ => fun
  | [d1, d2, d3, d4, d5] => { results := [.lit (.bool false)], args := [d1, d2, d3, d4, d5] }
  | _ => none }
def MotionStepsWrongFalsely : Prop := motionStepsRow.holds Tryz.pinned (OpenSpec.ofChange motionStepsWrong)

/-- 'tramlinelaw03.MotionCouples': WHATEVER THE INPUT: true; the input reads as it did. -/
def motionCouplesSpec : ChangeSpec := { name := "motionCouples", fn := fun _ => fun
  | [d1, d2] => { results := [.lit (.bool true)], args := [d1, d2] }
  | _ => none }
def motionCouplesRow : OpenClaim := { program := "ytcokdbcdlaofbaagreat", sum := "31ee949e79319aaecdd17e5a25727efaa23b60a68f201dd6bf4d95a115b0d2b9", func := "tramline/tramlinelaw03.MotionCouples", spec := "motionCouples", inPlace := ["math.sqrt"], unfollowed := true, recurses := true, plainKeys := false, apart := false }
def MotionCouplesSaid : Prop := motionCouplesRow.holds Tryz.pinned (OpenSpec.ofChange motionCouplesSpec)

/-- ITS FALSE NEIGHBOUR: 'it returns false'. Refute it at one input. -/
def motionCouplesWrong : ChangeSpec := { name := "motionCouples", fn := fun _ => fun
  | [d1, d2] => { results := [.lit (.bool false)], args := [d1, d2] }
  | _ => none }
def MotionCouplesWrongFalsely : Prop := motionCouplesRow.holds Tryz.pinned (OpenSpec.ofChange motionCouplesWrong)

/-- 'tramlinelaw03.MotionTriples': WHATEVER THE INPUT: true; the input reads as it did. -/
def motionTriplesSpec : ChangeSpec := { name := "motionTriples", fn := fun _ => fun
  | [d1, d2, d3] => { results := [.lit (.bool true)], args := [d1, d2, d3] }
  | _ => none }
def motionTriplesRow : OpenClaim := { program := "ytcokdbcdlaofbaagreat", sum := "31ee949e79319aaecdd17e5a25727efaa23b60a68f201dd6bf4d95a115b0d2b9", func := "tramline/tramlinelaw03.MotionTriples", spec := "motionTriples", inPlace := ["math.sqrt"], unfollowed := true, recurses := true, plainKeys := false, apart := false }
def MotionTriplesSaid : Prop := motionTriplesRow.holds Tryz.pinned (OpenSpec.ofChange motionTriplesSpec)

/-- ITS FALSE NEIGHBOUR: 'it returns false'. Refute it at one input. -/
def motionTriplesWrong : ChangeSpec := { name := "motionTriples", fn := fun _ => fun
  | [d1, d2, d3] => { results := [.lit (.bool false)], args := [d1, d2, d3] }
  | _ => none }
def MotionTriplesWrongFalsely : Prop := motionTriplesRow.holds Tryz.pinned (OpenSpec.ofChange motionTriplesWrong)

/-- 'tramlinelaw03.MotionDrives': WHATEVER THE INPUT: true; the input reads as it did. -/
def motionDrivesSpec : ChangeSpec := { name := "motionDrives", fn := fun _ => fun
  | [d1, d2, d3, d4, d5] => { results := [.lit (.bool true)], args := [d1, d2, d3, d4, d5] }
  | _ => none }
def motionDrivesRow : OpenClaim := { program := "ytcokdbcdlaofbaagreat", sum := "31ee949e79319aaecdd17e5a25727efaa23b60a68f201dd6bf4d95a115b0d2b9", func := "tramline/tramlinelaw03.MotionDrives", spec := "motionDrives", inPlace := ["math.sqrt"], unfollowed := true, recurses := true, plainKeys := false, apart := false }
def MotionDrivesSaid : Prop := motionDrivesRow.holds Tryz.pinned (OpenSpec.ofChange motionDrivesSpec)

/-- ITS FALSE NEIGHBOUR: 'it returns false'. Refute it at one input. -/
def motionDrivesWrong : ChangeSpec := { name := "motionDrives", fn := fun _ => fun
  | [d1, d2, d3, d4, d5] => { results := [.lit (.bool false)], args := [d1, d2, d3, d4, d5] }
  | _ => none }
def MotionDrivesWrongFalsely : Prop := motionDrivesRow.holds Tryz.pinned (OpenSpec.ofChange motionDrivesWrong)

/- THE SECOND FORM. 'bulk': how many values and letters a reading holds, each counted each time it is reached (what is shared counts as often as it is met; a slice's spare places count too). A statement '..UptoSaid' is the law's where the arguments, and the package variables that the reading takes, are together of bulk at most 1048576: NARROWER than '..Said'. Prove '..Said' where nothing that the law and all that it calls make is longer than what came in: it says more and counts as full. Else prove '..UptoSaid'. A law counts once. -/
mutual
def uptoBulk {H : Type} : DataW H → Nat
  | .lit (.string bytes) => bytes.length + 1
  | .lit _ => 1
  | .nil => 1
  | .ptr d => uptoBulk d + 1
  | .slice elems spare => uptoBulkAll elems + uptoBulkAll spare + 1
  | .agg parts => uptoBulkAll parts + 1
  | .iface _ d => uptoBulk d + 1
  | .map entries => uptoBulkEntries entries + 1
  | .held _ => 1
def uptoBulkAll {H : Type} : List (DataW H) → Nat
  | [] => 0
  | d :: r => uptoBulk d + uptoBulkAll r
def uptoBulkEntries {H : Type} : List (Lit × DataW H) → Nat
  | [] => 0
  | x :: r => uptoBulkEntry x + uptoBulkEntries r
def uptoBulkEntry {H : Type} : Lit × DataW H → Nat
  | (.string bytes, d) => bytes.length + uptoBulk d + 1
  | (_, d) => uptoBulk d + 1
 end
def uptoSmall : (H : Type) → List (DataW H) → Bool := fun _ ds => decide (uptoBulkAll ds ≤ 1048576)
def OpenSpec.upto (s : _root_.Go.ChangeSpec) : _root_.Go.OpenSpec := { _root_.Go.OpenSpec.ofChange s with cond := some uptoSmall }

/-- 'tramlinelaw03.MotionBalances', WHERE WHAT IT READS IS OF BULK AT MOST 1048576: true; the input reads as it did. -/
def motionBalancesUptoRow : OpenClaim := { program := "ytcokdbcdlaofbaagreat", sum := "31ee949e79319aaecdd17e5a25727efaa23b60a68f201dd6bf4d95a115b0d2b9", func := "tramline/tramlinelaw03.MotionBalances", spec := "motionBalances", inPlace := ["math.sqrt"], unfollowed := true, recurses := true, plainKeys := false, apart := false, narrowed := true }
def MotionBalancesUptoSaid : Prop := motionBalancesUptoRow.holds Tryz.pinned (OpenSpec.upto motionBalancesSpec)

/-- 'tramlinelaw03.MotionBrakes', WHERE WHAT IT READS IS OF BULK AT MOST 1048576: true; the input reads as it did. -/
def motionBrakesUptoRow : OpenClaim := { program := "ytcokdbcdlaofbaagreat", sum := "31ee949e79319aaecdd17e5a25727efaa23b60a68f201dd6bf4d95a115b0d2b9", func := "tramline/tramlinelaw03.MotionBrakes", spec := "motionBrakes", inPlace := ["math.sqrt"], unfollowed := true, recurses := true, plainKeys := false, apart := false, narrowed := true }
def MotionBrakesUptoSaid : Prop := motionBrakesUptoRow.holds Tryz.pinned (OpenSpec.upto motionBrakesSpec)

/-- 'tramlinelaw03.MotionSights', WHERE WHAT IT READS IS OF BULK AT MOST 1048576: true; the input reads as it did. -/
def motionSightsUptoRow : OpenClaim := { program := "ytcokdbcdlaofbaagreat", sum := "31ee949e79319aaecdd17e5a25727efaa23b60a68f201dd6bf4d95a115b0d2b9", func := "tramline/tramlinelaw03.MotionSights", spec := "motionSights", inPlace := ["math.sqrt"], unfollowed := true, recurses := true, plainKeys := false, apart := false, narrowed := true }
def MotionSightsUptoSaid : Prop := motionSightsUptoRow.holds Tryz.pinned (OpenSpec.upto motionSightsSpec)

/-- 'tramlinelaw03.MotionStops', WHERE WHAT IT READS IS OF BULK AT MOST 1048576: true; the input reads as it did. -/
def motionStopsUptoRow : OpenClaim := { program := "ytcokdbcdlaofbaagreat", sum := "31ee949e79319aaecdd17e5a25727efaa23b60a68f201dd6bf4d95a115b0d2b9", func := "tramline/tramlinelaw03.MotionStops", spec := "motionStops", inPlace := ["math.sqrt"], unfollowed := true, recurses := true, plainKeys := false, apart := false, narrowed := true }
def MotionStopsUptoSaid : Prop := motionStopsUptoRow.holds Tryz.pinned (OpenSpec.upto motionStopsSpec)

/-- 'tramlinelaw03.MotionGrips', WHERE WHAT IT READS IS OF BULK AT MOST 1048576: true; the input reads as it did. -/
def motionGripsUptoRow : OpenClaim := { program := "ytcokdbcdlaofbaagreat", sum := "31ee949e79319aaecdd17e5a25727efaa23b60a68f201dd6bf4d95a115b0d2b9", func := "tramline/tramlinelaw03.MotionGrips", spec := "motionGrips", inPlace := ["math.sqrt"], unfollowed := true, recurses := true, plainKeys := false, apart := false, narrowed := true }
def MotionGripsUptoSaid : Prop := motionGripsUptoRow.holds Tryz.pinned (OpenSpec.upto motionGripsSpec)

/-- 'tramlinelaw03.MotionArrives', WHERE WHAT IT READS IS OF BULK AT MOST 1048576: true; the input reads as it did. -/
def motionArrivesUptoRow : OpenClaim := { program := "ytcokdbcdlaofbaagreat", sum := "31ee949e79319aaecdd17e5a25727efaa23b60a68f201dd6bf4d95a115b0d2b9", func := "tramline/tramlinelaw03.MotionArrives", spec := "motionArrives", inPlace := ["math.sqrt"], unfollowed := true, recurses := true, plainKeys := false, apart := false, narrowed := true }
def MotionArrivesUptoSaid : Prop := motionArrivesUptoRow.holds Tryz.pinned (OpenSpec.upto motionArrivesSpec)

/-- 'tramlinelaw03.MotionSteps', WHERE WHAT IT READS IS OF BULK AT MOST 1048576: true; the input reads as it did. -/
def motionStepsUptoRow : OpenClaim := { program := "ytcokdbcdlaofbaagreat", sum := "31ee949e79319aaecdd17e5a25727efaa23b60a68f201dd6bf4d95a115b0d2b9", func := "tramline/tramlinelaw03.MotionSteps", spec := "motionSteps", inPlace := ["math.sqrt"], unfollowed := true, recurses := true, plainKeys := false, apart := false, narrowed := true }
def MotionStepsUptoSaid : Prop := motionStepsUptoRow.holds Tryz.pinned (OpenSpec.upto motionStepsSpec)

/-- 'tramlinelaw03.MotionCouples', WHERE WHAT IT READS IS OF BULK AT MOST 1048576: true; the input reads as it did. -/
def motionCouplesUptoRow : OpenClaim := { program := "ytcokdbcdlaofbaagreat", sum := "31ee949e79319aaecdd17e5a25727efaa23b60a68f201dd6bf4d95a115b0d2b9", func := "tramline/tramlinelaw03.MotionCouples", spec := "motionCouples", inPlace := ["math.sqrt"], unfollowed := true, recurses := true, plainKeys := false, apart := false, narrowed := true }
def MotionCouplesUptoSaid : Prop := motionCouplesUptoRow.holds Tryz.pinned (OpenSpec.upto motionCouplesSpec)

/-- 'tramlinelaw03.MotionTriples', WHERE WHAT IT READS IS OF BULK AT MOST 1048576: true; the input reads as it did. -/
def motionTriplesUptoRow : OpenClaim := { program := "ytcokdbcdlaofbaagreat", sum := "31ee949e79319aaecdd17e5a25727efaa23b60a68f201dd6bf4d95a115b0d2b9", func := "tramline/tramlinelaw03.MotionTriples", spec := "motionTriples", inPlace := ["math.sqrt"], unfollowed := true, recurses := true, plainKeys := false, apart := false, narrowed := true }
def MotionTriplesUptoSaid : Prop := motionTriplesUptoRow.holds Tryz.pinned (OpenSpec.upto motionTriplesSpec)

/-- 'tramlinelaw03.MotionDrives', WHERE WHAT IT READS IS OF BULK AT MOST 1048576: true; the input reads as it did. -/
def motionDrivesUptoRow : OpenClaim := { program := "ytcokdbcdlaofbaagreat", sum := "31ee949e79319aaecdd17e5a25727efaa23b60a68f201dd6bf4d95a115b0d2b9", func := "tramline/tramlinelaw03.MotionDrives", spec := "motionDrives", inPlace := ["math.sqrt"], unfollowed := true, recurses := true, plainKeys := false, apart := false, narrowed := true }
def MotionDrivesUptoSaid : Prop := motionDrivesUptoRow.holds Tryz.pinned (OpenSpec.upto motionDrivesSpec)

end Rows
end Go.Proofs.YtcokdbcdlaofbaaGreat
