/-
  No cell of these rows narrows 'for every input' (looked for: loops, veiled, ifaces, maps, wideKeys, modest, calm, conditions, laid).
  DERIVED. THE GIVEN ROWS OF THIS SEAT. 9 by the template 'for every input the law returns true; each argument reads behind the call as it read before'; 0 by the template 'total and deterministic' (their statements: YtpiblfbidgcjaaaTotals.lean).
  GIVEN WITH THE SEED: the statements are not yours to turn. If you find one false, say at which input.
  Laid BY PROGRAM, IN A SANDBOX (cutbox-rows.mjs): the forced cells as the released guide's own fill.sh prints them over the translation ec982403e14d544c… (all of the seat's roots in one cut). By AI agents, Wed Nov 11 2026. No macro, syntax, notation, axiom, sorry.
-/
import Derived.Test.YtpiblfbidgcjaaaChecked
import GoSem.Claim
import GoSem.ClaimJoined
import GoSem.ClaimMapViews
import Derived.JoinedTies
import Derived.KernelRfl
namespace Go.Proofs.Ytpiblfbidgcjaaa
/- THE CELL 'sum', in the pinned program and in every row, IS THE sha256 OF THE DUMP (.gsa) THAT YtpiblfbidgcjaaaProg.lean LOADS. Nothing in Lean hashes anything: it is a label: what it is worth is what the hold of that sum in a sandbox is worth. -/
noncomputable def Try.pinned : Pinned := { name := "ytpiblfbidgcjaaa", sum := "ec982403e14d544cec663b3021d316177a48d84c8a112a3f7df66bd51631af21", checked := Try.checked }
namespace Rows
def none {H : Type} : Left H := { results := [], args := [] }

/-- 'tramlinelaw09.DepotAssigns': WHATEVER THE INPUT: true; the input reads as it did. -/
def depotAssignsSpec : ChangeSpec := { name := "depotAssigns", fn := fun _ => fun
  | [d1, d2] => { results := [.lit (.bool true)], args := [d1, d2] }
  | _ => none }
def depotAssignsRow : OpenClaim := { program := "ytpiblfbidgcjaaa", sum := "ec982403e14d544cec663b3021d316177a48d84c8a112a3f7df66bd51631af21", func := "tramline/tramlinelaw09.DepotAssigns", spec := "depotAssigns", unfollowed := true, recurses := true, apart := false }
def DepotAssignsSaid : Prop := depotAssignsRow.holds Try.pinned (OpenSpec.ofChange depotAssignsSpec)

/-- ITS FALSE NEIGHBOUR: 'it returns false'. Refute it at one input. -/
def depotAssignsWrong : ChangeSpec := { name := "depotAssigns", fn := fun _ => fun
  | [d1, d2] => { results := [.lit (.bool false)], args := [d1, d2] }
  | _ => none }
def DepotAssignsWrongFalsely : Prop := depotAssignsRow.holds Try.pinned (OpenSpec.ofChange depotAssignsWrong)

/-- 'tramlinelaw09.DepotNights': WHATEVER THE INPUT: true; the input reads as it did. -/
def depotNightsSpec : ChangeSpec := { name := "depotNights", fn := fun _ => fun
  | [d1, d2, d3] => { results := [.lit (.bool true)], args := [d1, d2, d3] }
  | _ => none }
def depotNightsRow : OpenClaim := { program := "ytpiblfbidgcjaaa", sum := "ec982403e14d544cec663b3021d316177a48d84c8a112a3f7df66bd51631af21", func := "tramline/tramlinelaw09.DepotNights", spec := "depotNights", unfollowed := true, recurses := true, apart := false }
def DepotNightsSaid : Prop := depotNightsRow.holds Try.pinned (OpenSpec.ofChange depotNightsSpec)

/-- ITS FALSE NEIGHBOUR: 'it returns false'. Refute it at one input. -/
def depotNightsWrong : ChangeSpec := { name := "depotNights", fn := fun _ => fun
  | [d1, d2, d3] => { results := [.lit (.bool false)], args := [d1, d2, d3] }
  | _ => none }
def DepotNightsWrongFalsely : Prop := depotNightsRow.holds Try.pinned (OpenSpec.ofChange depotNightsWrong)

/-- 'tramlinelaw09.DepotSorted': WHATEVER THE INPUT: true; the input reads as it did. -/
def depotSortedSpec : ChangeSpec := { name := "depotSorted", fn := fun _ => fun
  | [d1, d2, d3] => { results := [.lit (.bool true)], args := [d1, d2, d3] }
  | _ => none }
def depotSortedRow : OpenClaim := { program := "ytpiblfbidgcjaaa", sum := "ec982403e14d544cec663b3021d316177a48d84c8a112a3f7df66bd51631af21", func := "tramline/tramlinelaw09.DepotSorted", spec := "depotSorted", unfollowed := true, recurses := true, apart := false }
def DepotSortedSaid : Prop := depotSortedRow.holds Try.pinned (OpenSpec.ofChange depotSortedSpec)

/-- ITS FALSE NEIGHBOUR: 'it returns false'. Refute it at one input. -/
def depotSortedWrong : ChangeSpec := { name := "depotSorted", fn := fun _ => fun
  | [d1, d2, d3] => { results := [.lit (.bool false)], args := [d1, d2, d3] }
  | _ => none }
def DepotSortedWrongFalsely : Prop := depotSortedRow.holds Try.pinned (OpenSpec.ofChange depotSortedWrong)

/-- 'tramlinelaw09.DepotWashes': WHATEVER THE INPUT: true; the input reads as it did. -/
def depotWashesSpec : ChangeSpec := { name := "depotWashes", fn := fun _ => fun
  | [d] => { results := [.lit (.bool true)], args := [d] }
  | _ => none }
def depotWashesRow : OpenClaim := { program := "ytpiblfbidgcjaaa", sum := "ec982403e14d544cec663b3021d316177a48d84c8a112a3f7df66bd51631af21", func := "tramline/tramlinelaw09.DepotWashes", spec := "depotWashes", unfollowed := true, recurses := true, apart := false }
def DepotWashesSaid : Prop := depotWashesRow.holds Try.pinned (OpenSpec.ofChange depotWashesSpec)

/-- ITS FALSE NEIGHBOUR: 'it returns false'. Refute it at one input. -/
def depotWashesWrong : ChangeSpec := { name := "depotWashes", fn := fun _ => fun
  | [d] => { results := [.lit (.bool false)], args := [d] }
  | _ => none }
def DepotWashesWrongFalsely : Prop := depotWashesRow.holds Try.pinned (OpenSpec.ofChange depotWashesWrong)

/-- 'tramlinelaw09.DepotLate': WHATEVER THE INPUT: true; the input reads as it did. -/
def depotLateSpec : ChangeSpec := { name := "depotLate", fn := fun _ => fun
  | [d1, d2] => { results := [.lit (.bool true)], args := [d1, d2] }
  | _ => none }
def depotLateRow : OpenClaim := { program := "ytpiblfbidgcjaaa", sum := "ec982403e14d544cec663b3021d316177a48d84c8a112a3f7df66bd51631af21", func := "tramline/tramlinelaw09.DepotLate", spec := "depotLate", unfollowed := true, recurses := true, apart := false }
def DepotLateSaid : Prop := depotLateRow.holds Try.pinned (OpenSpec.ofChange depotLateSpec)

/-- ITS FALSE NEIGHBOUR: 'it returns false'. Refute it at one input. -/
def depotLateWrong : ChangeSpec := { name := "depotLate", fn := fun _ => fun
  | [d1, d2] => { results := [.lit (.bool false)], args := [d1, d2] }
  | _ => none }
def DepotLateWrongFalsely : Prop := depotLateRow.holds Try.pinned (OpenSpec.ofChange depotLateWrong)

/-- 'tramlinelaw09.DepotProves': WHATEVER THE INPUT: true; the input reads as it did. -/
def depotProvesSpec : ChangeSpec := { name := "depotProves", fn := fun _ => fun
  | [d1, d2, d3, d4] => { results := [.lit (.bool true)], args := [d1, d2, d3, d4] }
  | _ => none }
def depotProvesRow : OpenClaim := { program := "ytpiblfbidgcjaaa", sum := "ec982403e14d544cec663b3021d316177a48d84c8a112a3f7df66bd51631af21", func := "tramline/tramlinelaw09.DepotProves", spec := "depotProves", unfollowed := true, recurses := true, apart := false }
def DepotProvesSaid : Prop := depotProvesRow.holds Try.pinned (OpenSpec.ofChange depotProvesSpec)

/-- ITS FALSE NEIGHBOUR: 'it returns false'. Refute it at one input. -/
def depotProvesWrong : ChangeSpec := { name := "depotProves", fn := fun _ => fun
  | [d1, d2, d3, d4] => { results := [.lit (.bool false)], args := [d1, d2, d3, d4] }
  | _ => none }
def DepotProvesWrongFalsely : Prop := depotProvesRow.holds Try.pinned (OpenSpec.ofChange depotProvesWrong)

/-- 'tramlinelaw09.DepotFewest': WHATEVER THE INPUT: true; the input reads as it did. -/
def depotFewestSpec : ChangeSpec := { name := "depotFewest", fn := fun _ => fun
  | [d1, d2, d3, d4, d5] => { results := [.lit (.bool true)], args := [d1, d2, d3, d4, d5] }
  | _ => none }
def depotFewestRow : OpenClaim := { program := "ytpiblfbidgcjaaa", sum := "ec982403e14d544cec663b3021d316177a48d84c8a112a3f7df66bd51631af21", func := "tramline/tramlinelaw09.DepotFewest", spec := "depotFewest", unfollowed := true, recurses := true, apart := false }
def DepotFewestSaid : Prop := depotFewestRow.holds Try.pinned (OpenSpec.ofChange depotFewestSpec)

/-- ITS FALSE NEIGHBOUR: 'it returns false'. Refute it at one input. -/
def depotFewestWrong : ChangeSpec := { name := "depotFewest", fn := fun _ => fun
  | [d1, d2, d3, d4, d5] => { results := [.lit (.bool false)], args := [d1, d2, d3, d4, d5] }
  | _ => none }
def DepotFewestWrongFalsely : Prop := depotFewestRow.holds Try.pinned (OpenSpec.ofChange depotFewestWrong)

/-- 'tramlinelaw09.DepotMoves': WHATEVER THE INPUT: true; the input reads as it did. -/
def depotMovesSpec : ChangeSpec := { name := "depotMoves", fn := fun _ => fun
  | [d1, d2, d3, d4] => { results := [.lit (.bool true)], args := [d1, d2, d3, d4] }
  | _ => none }
def depotMovesRow : OpenClaim := { program := "ytpiblfbidgcjaaa", sum := "ec982403e14d544cec663b3021d316177a48d84c8a112a3f7df66bd51631af21", func := "tramline/tramlinelaw09.DepotMoves", spec := "depotMoves", unfollowed := true, recurses := true, apart := false }
def DepotMovesSaid : Prop := depotMovesRow.holds Try.pinned (OpenSpec.ofChange depotMovesSpec)

/-- ITS FALSE NEIGHBOUR: 'it returns false'. Refute it at one input. -/
def depotMovesWrong : ChangeSpec := { name := "depotMoves", fn := fun _ => fun
  | [d1, d2, d3, d4] => { results := [.lit (.bool false)], args := [d1, d2, d3, d4] }
  | _ => none }
def DepotMovesWrongFalsely : Prop := depotMovesRow.holds Try.pinned (OpenSpec.ofChange depotMovesWrong)

/-- 'tramlinelaw09.DepotLeast': WHATEVER THE INPUT: true; the input reads as it did. -/
def depotLeastSpec : ChangeSpec := { name := "depotLeast", fn := fun _ => fun
  | [d1, d2, d3, d4, d5, d6] => { results := [.lit (.bool true)], args := [d1, d2, d3, d4, d5, d6] }
  | _ => none }
def depotLeastRow : OpenClaim := { program := "ytpiblfbidgcjaaa", sum := "ec982403e14d544cec663b3021d316177a48d84c8a112a3f7df66bd51631af21", func := "tramline/tramlinelaw09.DepotLeast", spec := "depotLeast", unfollowed := true, recurses := true, apart := false }
def DepotLeastSaid : Prop := depotLeastRow.holds Try.pinned (OpenSpec.ofChange depotLeastSpec)

/-- ITS FALSE NEIGHBOUR: 'it returns false'. Refute it at one input. -/
def depotLeastWrong : ChangeSpec := { name := "depotLeast", fn := fun _ => fun
  | [d1, d2, d3, d4, d5, d6] => { results := [.lit (.bool false)], args := [d1, d2, d3, d4, d5, d6] }
  | _ => none }
def DepotLeastWrongFalsely : Prop := depotLeastRow.holds Try.pinned (OpenSpec.ofChange depotLeastWrong)

/- THE SECOND FORM. 'bulk': how many values and letters a reading holds, each counted each time it is reached (what is shared counts as often as it is met; a slice's spare places count too). A statement '..UptoSaid' is the law's where the arguments, and the package variables that the reading takes, are together of bulk at most 1048576: NARROWER than '..Said'. Prove '..Said' where nothing that the law and all that it calls make is longer than what came in: it says more and counts as full. Else prove '..UptoSaid'. A law counts once. -/
mutual
def uptoBulk {H : Type} : DataW H → Nat
  | .lit (.string bytes) => bytes.length + 1
  | .lit _ => 1
  | .nil => 1
  | .ptr d => uptoBulk d + 1
  | .slice elems spare => uptoBulkAll elems + uptoBulkAll spare + 1
  | .agg parts => uptoBulkAll parts + 1
  | .iface _ d => uptoBulk d + 1
  | .map entries => uptoBulkEntries entries + 1
  | .held _ => 1
def uptoBulkAll {H : Type} : List (DataW H) → Nat
  | [] => 0
  | d :: r => uptoBulk d + uptoBulkAll r
def uptoBulkEntries {H : Type} : List (Lit × DataW H) → Nat
  | [] => 0
  | x :: r => uptoBulkEntry x + uptoBulkEntries r
def uptoBulkEntry {H : Type} : Lit × DataW H → Nat
  | (.string bytes, d) => bytes.length + uptoBulk d + 1
  | (_, d) => uptoBulk d + 1
 end
def uptoSmall : (H : Type) → List (DataW H) → Bool := fun _ ds => decide (uptoBulkAll ds ≤ 1048576)
def OpenSpec.upto (s : _root_.Go.ChangeSpec) : _root_.Go.OpenSpec := { _root_.Go.OpenSpec.ofChange s with cond := some uptoSmall }

/-- 'tramlinelaw09.DepotAssigns', WHERE WHAT IT READS IS OF BULK AT MOST 1048576: true; the input reads as it did. -/
def depotAssignsUptoRow : OpenClaim := { program := "ytpiblfbidgcjaaa", sum := "ec982403e14d544cec663b3021d316177a48d84c8a112a3f7df66bd51631af21", func := "tramline/tramlinelaw09.DepotAssigns", spec := "depotAssigns", unfollowed := true, recurses := true, apart := false, narrowed := true }
def DepotAssignsUptoSaid : Prop := depotAssignsUptoRow.holds Try.pinned (OpenSpec.upto depotAssignsSpec)

/-- 'tramlinelaw09.DepotNights', WHERE WHAT IT READS IS OF BULK AT MOST 1048576: true; the input reads as it did. -/
def depotNightsUptoRow : OpenClaim := { program := "ytpiblfbidgcjaaa", sum := "ec982403e14d544cec663b3021d316177a48d84c8a112a3f7df66bd51631af21", func := "tramline/tramlinelaw09.DepotNights", spec := "depotNights", unfollowed := true, recurses := true, apart := false, narrowed := true }
def DepotNightsUptoSaid : Prop := depotNightsUptoRow.holds Try.pinned (OpenSpec.upto depotNightsSpec)

/-- 'tramlinelaw09.DepotSorted', WHERE WHAT IT READS IS OF BULK AT MOST 1048576: true; the input reads as it did. -/
def depotSortedUptoRow : OpenClaim := { program := "ytpiblfbidgcjaaa", sum := "ec982403e14d544cec663b3021d316177a48d84c8a112a3f7df66bd51631af21", func := "tramline/tramlinelaw09.DepotSorted", spec := "depotSorted", unfollowed := true, recurses := true, apart := false, narrowed := true }
def DepotSortedUptoSaid : Prop := depotSortedUptoRow.holds Try.pinned (OpenSpec.upto depotSortedSpec)

/-- 'tramlinelaw09.DepotWashes', WHERE WHAT IT READS IS OF BULK AT MOST 1048576: true; the input reads as it did. -/
def depotWashesUptoRow : OpenClaim := { program := "ytpiblfbidgcjaaa", sum := "ec982403e14d544cec663b3021d316177a48d84c8a112a3f7df66bd51631af21", func := "tramline/tramlinelaw09.DepotWashes", spec := "depotWashes", unfollowed := true, recurses := true, apart := false, narrowed := true }
def DepotWashesUptoSaid : Prop := depotWashesUptoRow.holds Try.pinned (OpenSpec.upto depotWashesSpec)

/-- 'tramlinelaw09.DepotLate', WHERE WHAT IT READS IS OF BULK AT MOST 1048576: true; the input reads as it did. -/
def depotLateUptoRow : OpenClaim := { program := "ytpiblfbidgcjaaa", sum := "ec982403e14d544cec663b3021d316177a48d84c8a112a3f7df66bd51631af21", func := "tramline/tramlinelaw09.DepotLate", spec := "depotLate", unfollowed := true, recurses := true, apart := false, narrowed := true }
def DepotLateUptoSaid : Prop := depotLateUptoRow.holds Try.pinned (OpenSpec.upto depotLateSpec)

/-- 'tramlinelaw09.DepotProves', WHERE WHAT IT READS IS OF BULK AT MOST 1048576: true; the input reads as it did. -/
def depotProvesUptoRow : OpenClaim := { program := "ytpiblfbidgcjaaa", sum := "ec982403e14d544cec663b3021d316177a48d84c8a112a3f7df66bd51631af21", func := "tramline/tramlinelaw09.DepotProves", spec := "depotProves", unfollowed := true, recurses := true, apart := false, narrowed := true }
def DepotProvesUptoSaid : Prop := depotProvesUptoRow.holds Try.pinned (OpenSpec.upto depotProvesSpec)

/-- 'tramlinelaw09.DepotFewest', WHERE WHAT IT READS IS OF BULK AT MOST 1048576: true; the input reads as it did. -/
def depotFewestUptoRow : OpenClaim := { program := "ytpiblfbidgcjaaa", sum := "ec982403e14d544cec663b3021d316177a48d84c8a112a3f7df66bd51631af21", func := "tramline/tramlinelaw09.DepotFewest", spec := "depotFewest", unfollowed := true, recurses := true, apart := false, narrowed := true }
def DepotFewestUptoSaid : Prop := depotFewestUptoRow.holds Try.pinned (OpenSpec.upto depotFewestSpec)

/-- 'tramlinelaw09.DepotMoves', WHERE WHAT IT READS IS OF BULK AT MOST 1048576: true; the input reads as it did. -/
def depotMovesUptoRow : OpenClaim := { program := "ytpiblfbidgcjaaa", sum := "ec982403e14d544cec663b3021d316177a48d84c8a112a3f7df66bd51631af21", func := "tramline/tramlinelaw09.DepotMoves", spec := "depotMoves", unfollowed := true, recurses := true, apart := false, narrowed := true }
def DepotMovesUptoSaid : Prop := depotMovesUptoRow.holds Try.pinned (OpenSpec.upto depotMovesSpec)

/-- 'tramlinelaw09.DepotLeast', WHERE WHAT IT READS IS OF BULK AT MOST 1048576: true; the input reads as it did. -/
def depotLeastUptoRow : OpenClaim := { program := "ytpiblfbidgcjaaa", sum := "ec982403e14d544cec663b3021d316177a48d84c8a112a3f7df66bd51631af21", func := "tramline/tramlinelaw09.DepotLeast", spec := "depotLeast", unfollowed := true, recurses := true, apart := false, narrowed := true }
def DepotLeastUptoSaid : Prop := depotLeastUptoRow.holds Try.pinned (OpenSpec.upto depotLeastSpec)

end Rows
end Go.Proofs.Ytpiblfbidgcjaaa
