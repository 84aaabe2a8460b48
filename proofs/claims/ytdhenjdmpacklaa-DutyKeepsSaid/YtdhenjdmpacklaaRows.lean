/-
  No cell of these rows narrows 'for every input' (looked for: loops, veiled, ifaces, maps, wideKeys, modest, calm, conditions, laid).
  DERIVED. THE GIVEN ROWS OF THIS SEAT. 9 by the template 'for every input the law returns true; each argument reads behind the call as it read before'; 0 by the template 'total and deterministic' (their statements: YtdhenjdmpacklaaTotals.lean).
  GIVEN WITH THE SEED: the statements are not yours to turn. If you find one false, say at which input.
  Laid BY PROGRAM, IN A SANDBOX (cutbox-rows.mjs): the forced cells as the released guide's own fill.sh prints them over the translation 38753bdcec662708… (all of the seat's roots in one cut). By AI agents, Wed Nov 11 2026. No macro, syntax, notation, axiom, sorry.
-/
import Derived.Test.YtdhenjdmpacklaaChecked
import GoSem.Claim
import GoSem.ClaimJoined
import GoSem.ClaimMapViews
import Derived.JoinedTies
import Derived.KernelRfl
namespace Go.Proofs.Ytdhenjdmpacklaa
/- THE CELL 'sum', in the pinned program and in every row, IS THE sha256 OF THE DUMP (.gsa) THAT YtdhenjdmpacklaaProg.lean LOADS. Nothing in Lean hashes anything: it is a label: what it is worth is what the hold of that sum in a sandbox is worth. -/
noncomputable def Try.pinned : Pinned := { name := "ytdhenjdmpacklaa", sum := "38753bdcec662708bf00c7298e34506e79f0f5983402de291314340514b653b3", checked := Try.checked }
namespace Rows
def none {H : Type} : Left H := { results := [], args := [] }

/-- 'tramlinelaw08.DutyCars': WHATEVER THE INPUT: true; the input reads as it did. -/
def dutyCarsSpec : ChangeSpec := { name := "dutyCars", fn := fun _ => fun
  | [d1, d2] => { results := [.lit (.bool true)], args := [d1, d2] }
  | _ => none }
def dutyCarsRow : OpenClaim := { program := "ytdhenjdmpacklaa", sum := "38753bdcec662708bf00c7298e34506e79f0f5983402de291314340514b653b3", func := "tramline/tramlinelaw08.DutyCars", spec := "dutyCars", unfollowed := true, recurses := true, apart := false }
def DutyCarsSaid : Prop := dutyCarsRow.holds Try.pinned (OpenSpec.ofChange dutyCarsSpec)

/-- ITS FALSE NEIGHBOUR: 'it returns false'. Refute it at one input. -/
def dutyCarsWrong : ChangeSpec := { name := "dutyCars", fn := fun _ => fun
  | [d1, d2] => { results := [.lit (.bool false)], args := [d1, d2] }
  | _ => none }
def DutyCarsWrongFalsely : Prop := dutyCarsRow.holds Try.pinned (OpenSpec.ofChange dutyCarsWrong)

/-- 'tramlinelaw08.DutyShorter': WHATEVER THE INPUT: true; the input reads as it did. -/
def dutyShorterSpec : ChangeSpec := { name := "dutyShorter", fn := fun _ => fun
  | [d1, d2, d3] => { results := [.lit (.bool true)], args := [d1, d2, d3] }
  | _ => none }
def dutyShorterRow : OpenClaim := { program := "ytdhenjdmpacklaa", sum := "38753bdcec662708bf00c7298e34506e79f0f5983402de291314340514b653b3", func := "tramline/tramlinelaw08.DutyShorter", spec := "dutyShorter", unfollowed := true, recurses := true, apart := false }
def DutyShorterSaid : Prop := dutyShorterRow.holds Try.pinned (OpenSpec.ofChange dutyShorterSpec)

/-- ITS FALSE NEIGHBOUR: 'it returns false'. Refute it at one input. -/
def dutyShorterWrong : ChangeSpec := { name := "dutyShorter", fn := fun _ => fun
  | [d1, d2, d3] => { results := [.lit (.bool false)], args := [d1, d2, d3] }
  | _ => none }
def DutyShorterWrongFalsely : Prop := dutyShorterRow.holds Try.pinned (OpenSpec.ofChange dutyShorterWrong)

/-- 'tramlinelaw08.DutyPlans': WHATEVER THE INPUT: true; the input reads as it did. -/
def dutyPlansSpec : ChangeSpec := { name := "dutyPlans", fn := fun _ => fun
  | [d1, d2, d3, d4] => { results := [.lit (.bool true)], args := [d1, d2, d3, d4] }
  | _ => none }
def dutyPlansRow : OpenClaim := { program := "ytdhenjdmpacklaa", sum := "38753bdcec662708bf00c7298e34506e79f0f5983402de291314340514b653b3", func := "tramline/tramlinelaw08.DutyPlans", spec := "dutyPlans", unfollowed := true, recurses := true, apart := false }
def DutyPlansSaid : Prop := dutyPlansRow.holds Try.pinned (OpenSpec.ofChange dutyPlansSpec)

/-- ITS FALSE NEIGHBOUR: 'it returns false'. Refute it at one input. -/
def dutyPlansWrong : ChangeSpec := { name := "dutyPlans", fn := fun _ => fun
  | [d1, d2, d3, d4] => { results := [.lit (.bool false)], args := [d1, d2, d3, d4] }
  | _ => none }
def DutyPlansWrongFalsely : Prop := dutyPlansRow.holds Try.pinned (OpenSpec.ofChange dutyPlansWrong)

/-- 'tramlinelaw08.DutyBare': WHATEVER THE INPUT: true; the input reads as it did. -/
def dutyBareSpec : ChangeSpec := { name := "dutyBare", fn := fun _ => fun
  | [d1, d2, d3, d4] => { results := [.lit (.bool true)], args := [d1, d2, d3, d4] }
  | _ => none }
def dutyBareRow : OpenClaim := { program := "ytdhenjdmpacklaa", sum := "38753bdcec662708bf00c7298e34506e79f0f5983402de291314340514b653b3", func := "tramline/tramlinelaw08.DutyBare", spec := "dutyBare", unfollowed := true, recurses := true, apart := false }
def DutyBareSaid : Prop := dutyBareRow.holds Try.pinned (OpenSpec.ofChange dutyBareSpec)

/-- ITS FALSE NEIGHBOUR: 'it returns false'. Refute it at one input. -/
def dutyBareWrong : ChangeSpec := { name := "dutyBare", fn := fun _ => fun
  | [d1, d2, d3, d4] => { results := [.lit (.bool false)], args := [d1, d2, d3, d4] }
  | _ => none }
def DutyBareWrongFalsely : Prop := dutyBareRow.holds Try.pinned (OpenSpec.ofChange dutyBareWrong)

/-- 'tramlinelaw08.DutyFollows': WHATEVER THE INPUT: true; the input reads as it did. -/
def dutyFollowsSpec : ChangeSpec := { name := "dutyFollows", fn := fun _ => fun
  | [d1, d2, d3, d4] => { results := [.lit (.bool true)], args := [d1, d2, d3, d4] }
  | _ => none }
def dutyFollowsRow : OpenClaim := { program := "ytdhenjdmpacklaa", sum := "38753bdcec662708bf00c7298e34506e79f0f5983402de291314340514b653b3", func := "tramline/tramlinelaw08.DutyFollows", spec := "dutyFollows", unfollowed := true, recurses := true, apart := false }
def DutyFollowsSaid : Prop := dutyFollowsRow.holds Try.pinned (OpenSpec.ofChange dutyFollowsSpec)

/-- ITS FALSE NEIGHBOUR: 'it returns false'. Refute it at one input. -/
def dutyFollowsWrong : ChangeSpec := { name := "dutyFollows", fn := fun _ => fun
  | [d1, d2, d3, d4] => { results := [.lit (.bool false)], args := [d1, d2, d3, d4] }
  | _ => none }
def DutyFollowsWrongFalsely : Prop := dutyFollowsRow.holds Try.pinned (OpenSpec.ofChange dutyFollowsWrong)

/-- 'tramlinelaw08.DutyFaults': WHATEVER THE INPUT: true; the input reads as it did. -/
def dutyFaultsSpec : ChangeSpec := { name := "dutyFaults", fn := fun _ => fun
  | [d1, d2, d3, d4, d5] => { results := [.lit (.bool true)], args := [d1, d2, d3, d4, d5] }
  | _ => none }
def dutyFaultsRow : OpenClaim := { program := "ytdhenjdmpacklaa", sum := "38753bdcec662708bf00c7298e34506e79f0f5983402de291314340514b653b3", func := "tramline/tramlinelaw08.DutyFaults", spec := "dutyFaults", unfollowed := true, recurses := true, apart := false }
def DutyFaultsSaid : Prop := dutyFaultsRow.holds Try.pinned (OpenSpec.ofChange dutyFaultsSpec)

/-- ITS FALSE NEIGHBOUR: 'it returns false'. Refute it at one input. -/
def dutyFaultsWrong : ChangeSpec := { name := "dutyFaults", fn := fun _ => fun
  | [d1, d2, d3, d4, d5] => { results := [.lit (.bool false)], args := [d1, d2, d3, d4, d5] }
  | _ => none }
def DutyFaultsWrongFalsely : Prop := dutyFaultsRow.holds Try.pinned (OpenSpec.ofChange dutyFaultsWrong)

/-- 'tramlinelaw08.DutyKeeps': WHATEVER THE INPUT: true; the input reads as it did. -/
def dutyKeepsSpec : ChangeSpec := { name := "dutyKeeps", fn := fun _ => fun
  | [d1, d2, d3, d4, d5, d6] => { results := [.lit (.bool true)], args := [d1, d2, d3, d4, d5, d6] }
  | _ => none }
def dutyKeepsRow : OpenClaim := { program := "ytdhenjdmpacklaa", sum := "38753bdcec662708bf00c7298e34506e79f0f5983402de291314340514b653b3", func := "tramline/tramlinelaw08.DutyKeeps", spec := "dutyKeeps", unfollowed := true, recurses := true, apart := false }
def DutyKeepsSaid : Prop := dutyKeepsRow.holds Try.pinned (OpenSpec.ofChange dutyKeepsSpec)

/-- ITS FALSE NEIGHBOUR: 'it returns false'. Refute it at one input. -/
def dutyKeepsWrong : ChangeSpec := { name := "dutyKeeps", fn := fun _ => fun
  | [d1, d2, d3, d4, d5, d6] => { results := [.lit (.bool false)], args := [d1, d2, d3, d4, d5, d6] }
  | _ => none }
def DutyKeepsWrongFalsely : Prop := dutyKeepsRow.holds Try.pinned (OpenSpec.ofChange dutyKeepsWrong)

/-- 'tramlinelaw08.DutyProves': WHATEVER THE INPUT: true; the input reads as it did. -/
def dutyProvesSpec : ChangeSpec := { name := "dutyProves", fn := fun _ => fun
  | [d1, d2, d3, d4] => { results := [.lit (.bool true)], args := [d1, d2, d3, d4] }
  | _ => none }
def dutyProvesRow : OpenClaim := { program := "ytdhenjdmpacklaa", sum := "38753bdcec662708bf00c7298e34506e79f0f5983402de291314340514b653b3", func := "tramline/tramlinelaw08.DutyProves", spec := "dutyProves", unfollowed := true, recurses := true, apart := false }
def DutyProvesSaid : Prop := dutyProvesRow.holds Try.pinned (OpenSpec.ofChange dutyProvesSpec)

/-- ITS FALSE NEIGHBOUR: 'it returns false'. Refute it at one input. -/
def dutyProvesWrong : ChangeSpec := { name := "dutyProves", fn := fun _ => fun
  | [d1, d2, d3, d4] => { results := [.lit (.bool false)], args := [d1, d2, d3, d4] }
  | _ => none }
def DutyProvesWrongFalsely : Prop := dutyProvesRow.holds Try.pinned (OpenSpec.ofChange dutyProvesWrong)

/-- 'tramlinelaw08.DutyFewest': WHATEVER THE INPUT: true; the input reads as it did. -/
def dutyFewestSpec : ChangeSpec := { name := "dutyFewest", fn := fun _ => fun
  | [d1, d2, d3, d4, d5] => { results := [.lit (.bool true)], args := [d1, d2, d3, d4, d5] }
  | _ => none }
def dutyFewestRow : OpenClaim := { program := "ytdhenjdmpacklaa", sum := "38753bdcec662708bf00c7298e34506e79f0f5983402de291314340514b653b3", func := "tramline/tramlinelaw08.DutyFewest", spec := "dutyFewest", unfollowed := true, recurses := true, apart := false }
def DutyFewestSaid : Prop := dutyFewestRow.holds Try.pinned (OpenSpec.ofChange dutyFewestSpec)

/-- ITS FALSE NEIGHBOUR: 'it returns false'. Refute it at one input. -/
def dutyFewestWrong : ChangeSpec := { name := "dutyFewest", fn := fun _ => fun
  | [d1, d2, d3, d4, d5] => { results := [.lit (.bool false)], args := [d1, d2, d3, d4, d5] }
  | _ => none }
def DutyFewestWrongFalsely : Prop := dutyFewestRow.holds Try.pinned (OpenSpec.ofChange dutyFewestWrong)

/- THE SECOND FORM. 'bulk': how many values and letters a reading holds, each counted each time it is reached (what is shared counts as often as it is met; a slice's spare places count too). A statement '..UptoSaid' is the law's where the arguments, and the package variables that the reading takes, are together of bulk at most 1048576: NARROWER than '..Said'. Prove '..Said' where nothing that the law and all that it calls make is longer than what came in: it says more and counts as full. Else prove '..UptoSaid'. A law counts once. -/
mutual
def uptoBulk {H : Type} : DataW H → Nat
  | .lit (.string bytes) => bytes.length + 1
  | .lit _ => 1
  | .nil => 1
  | .ptr d => uptoBulk d + 1
  | .slice elems spare => uptoBulkAll elems + uptoBulkAll spare + 1
  | .agg parts => uptoBulkAll parts + 1
  | .iface _ d => uptoBulk d + 1
  | .map entries => uptoBulkEntries entries + 1
  | .held _ => 1
def uptoBulkAll {H : Type} : List (DataW H) → Nat
  | [] => 0
  | d :: r => uptoBulk d + uptoBulkAll r
def uptoBulkEntries {H : Type} : List (Lit × DataW H) → Nat
  | [] => 0
  | x :: r => uptoBulkEntry x + uptoBulkEntries r
def uptoBulkEntry {H : Type} : Lit × DataW H → Nat
  | (.string bytes, d) => bytes.length + uptoBulk d + 1
  | (_, d) => uptoBulk d + 1
 end
def uptoSmall : (H : Type) → List (DataW H) → Bool := fun _ ds => decide (uptoBulkAll ds ≤ 1048576)
def OpenSpec.upto (s : _root_.Go.ChangeSpec) : _root_.Go.OpenSpec := { _root_.Go.OpenSpec.ofChange s with cond := some uptoSmall }

/-- 'tramlinelaw08.DutyCars', WHERE WHAT IT READS IS OF BULK AT MOST 1048576: true; the input reads as it did. -/
def dutyCarsUptoRow : OpenClaim := { program := "ytdhenjdmpacklaa", sum := "38753bdcec662708bf00c7298e34506e79f0f5983402de291314340514b653b3", func := "tramline/tramlinelaw08.DutyCars", spec := "dutyCars", unfollowed := true, recurses := true, apart := false, narrowed := true }
def DutyCarsUptoSaid : Prop := dutyCarsUptoRow.holds Try.pinned (OpenSpec.upto dutyCarsSpec)

/-- 'tramlinelaw08.DutyShorter', WHERE WHAT IT READS IS OF BULK AT MOST 1048576: true; the input reads as it did. -/
def dutyShorterUptoRow : OpenClaim := { program := "ytdhenjdmpacklaa", sum := "38753bdcec662708bf00c7298e34506e79f0f5983402de291314340514b653b3", func := "tramline/tramlinelaw08.DutyShorter", spec := "dutyShorter", unfollowed := true, recurses := true, apart := false, narrowed := true }
def DutyShorterUptoSaid : Prop := dutyShorterUptoRow.holds Try.pinned (OpenSpec.upto dutyShorterSpec)

/-- 'tramlinelaw08.DutyPlans', WHERE WHAT IT READS IS OF BULK AT MOST 1048576: true; the input reads as it did. -/
def dutyPlansUptoRow : OpenClaim := { program := "ytdhenjdmpacklaa", sum := "38753bdcec662708bf00c7298e34506e79f0f5983402de291314340514b653b3", func := "tramline/tramlinelaw08.DutyPlans", spec := "dutyPlans", unfollowed := true, recurses := true, apart := false, narrowed := true }
def DutyPlansUptoSaid : Prop := dutyPlansUptoRow.holds Try.pinned (OpenSpec.upto dutyPlansSpec)

/-- 'tramlinelaw08.DutyBare', WHERE WHAT IT READS IS OF BULK AT MOST 1048576: true; the input reads as it did. -/
def dutyBareUptoRow : OpenClaim := { program := "ytdhenjdmpacklaa", sum := "38753bdcec662708bf00c7298e34506e79f0f5983402de291314340514b653b3", func := "tramline/tramlinelaw08.DutyBare", spec := "dutyBare", unfollowed := true, recurses := true, apart := false, narrowed := true }
def DutyBareUptoSaid : Prop := dutyBareUptoRow.holds Try.pinned (OpenSpec.upto dutyBareSpec)

/-- 'tramlinelaw08.DutyFollows', WHERE WHAT IT READS IS OF BULK AT MOST 1048576: true; the input reads as it did. -/
def dutyFollowsUptoRow : OpenClaim := { program := "ytdhenjdmpacklaa", sum := "38753bdcec662708bf00c7298e34506e79f0f5983402de291314340514b653b3", func := "tramline/tramlinelaw08.DutyFollows", spec := "dutyFollows", unfollowed := true, recurses := true, apart := false, narrowed := true }
def DutyFollowsUptoSaid : Prop := dutyFollowsUptoRow.holds Try.pinned (OpenSpec.upto dutyFollowsSpec)

/-- 'tramlinelaw08.DutyFaults', WHERE WHAT IT READS IS OF BULK AT MOST 1048576: true; the input reads as it did. -/
def dutyFaultsUptoRow : OpenClaim := { program := "ytdhenjdmpacklaa", sum := "38753bdcec662708bf00c7298e34506e79f0f5983402de291314340514b653b3", func := "tramline/tramlinelaw08.DutyFaults", spec := "dutyFaults", unfollowed := true, recurses := true, apart := false, narrowed := true }
def DutyFaultsUptoSaid : Prop := dutyFaultsUptoRow.holds Try.pinned (OpenSpec.upto dutyFaultsSpec)

/-- 'tramlinelaw08.DutyKeeps', WHERE WHAT IT READS IS OF BULK AT MOST 1048576: true; the input reads as it did. -/
def dutyKeepsUptoRow : OpenClaim := { program := "ytdhenjdmpacklaa", sum := "38753bdcec662708bf00c7298e34506e79f0f5983402de291314340514b653b3", func := "tramline/tramlinelaw08.DutyKeeps", spec := "dutyKeeps", unfollowed := true, recurses := true, apart := false, narrowed := true }
def DutyKeepsUptoSaid : Prop := dutyKeepsUptoRow.holds Try.pinned (OpenSpec.upto dutyKeepsSpec)

/-- 'tramlinelaw08.DutyProves', WHERE WHAT IT READS IS OF BULK AT MOST 1048576: true; the input reads as it did. -/
def dutyProvesUptoRow : OpenClaim := { program := "ytdhenjdmpacklaa", sum := "38753bdcec662708bf00c7298e34506e79f0f5983402de291314340514b653b3", func := "tramline/tramlinelaw08.DutyProves", spec := "dutyProves", unfollowed := true, recurses := true, apart := false, narrowed := true }
def DutyProvesUptoSaid : Prop := dutyProvesUptoRow.holds Try.pinned (OpenSpec.upto dutyProvesSpec)

/-- 'tramlinelaw08.DutyFewest', WHERE WHAT IT READS IS OF BULK AT MOST 1048576: true; the input reads as it did. -/
def dutyFewestUptoRow : OpenClaim := { program := "ytdhenjdmpacklaa", sum := "38753bdcec662708bf00c7298e34506e79f0f5983402de291314340514b653b3", func := "tramline/tramlinelaw08.DutyFewest", spec := "dutyFewest", unfollowed := true, recurses := true, apart := false, narrowed := true }
def DutyFewestUptoSaid : Prop := dutyFewestUptoRow.holds Try.pinned (OpenSpec.upto dutyFewestSpec)

end Rows
end Go.Proofs.Ytdhenjdmpacklaa
