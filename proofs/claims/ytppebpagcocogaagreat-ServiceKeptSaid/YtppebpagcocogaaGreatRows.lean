/-
  No cell of these rows narrows 'for every input' (looked for: loops, veiled, ifaces, maps, wideKeys, modest, calm, conditions, laid).
  DERIVED. THE GIVEN ROWS OF THIS SEAT. 12 by the template 'for every input the law returns true; each argument reads behind the call as it read before'; 0 by the template 'total and deterministic' (their statements: YtppebpagcocogaaGreatTotals.lean).
  GIVEN WITH THE SEED: the statements are not yours to turn. If you find one false, say at which input.
  Laid BY PROGRAM, IN A SANDBOX (cutbox-rows.mjs): the forced cells as the released guide's own fill.sh prints them over the translation 6bf9d4145eb074fa… (all of the seat's roots in one cut). By AI agents, Wed Nov 11 2026. No macro, syntax, notation, axiom, sorry.
-/
import Derived.Test.YtppebpagcocogaaGreatChecked
import GoSem.Claim
import GoSem.ClaimJoined
import GoSem.ClaimMapViews
import Derived.JoinedTies
import Derived.KernelRfl
namespace Go.Proofs.YtppebpagcocogaaGreat
/- THE CELL 'sum', in the pinned program and in every row, IS THE sha256 OF THE DUMP (.gsa) THAT YtppebpagcocogaaGreatProg.lean LOADS. Nothing in Lean hashes anything: it is a label: what it is worth is what the hold of that sum in a sandbox is worth. -/
noncomputable def Tryz.pinned : Pinned := { name := "ytppebpagcocogaagreat", sum := "6bf9d4145eb074fa18d2873f80ed0d325279c96cffdc342b1fae7b742843b2a5", checked := Tryz.checked }
namespace Rows
def none {H : Type} : Left H := { results := [], args := [] }

/-- 'tramlinelaw07.ServiceOffsets': WHATEVER THE INPUT: true; the input reads as it did. -/
def serviceOffsetsSpec : ChangeSpec := { name := "serviceOffsets", fn := fun _ => fun
  | [d1, d2, d3, d4] => { results := [.lit (.bool true)], args := [d1, d2, d3, d4] }
  | _ => none }
def serviceOffsetsRow : OpenClaim := { program := "ytppebpagcocogaagreat", sum := "6bf9d4145eb074fa18d2873f80ed0d325279c96cffdc342b1fae7b742843b2a5", func := "tramline/tramlinelaw07.ServiceOffsets", spec := "serviceOffsets", inPlace := ["math.sqrt"], unfollowed := true, recurses := true, plainKeys := false, apart := false }
def ServiceOffsetsSaid : Prop := serviceOffsetsRow.holds Tryz.pinned (OpenSpec.ofChange serviceOffsetsSpec)

/-- ITS FALSE NEIGHBOUR: 'it returns false'. Refute it at one input. -/
def serviceOffsetsWrong : ChangeSpec := { name := "serviceOffsets", fn := fun _ => fun
  | [d1, d2, d3, d4] => { results := [.lit (.bool false)], args := [d1, d2, d3, d4] }
  | _ => none }
def ServiceOffsetsWrongFalsely : Prop := serviceOffsetsRow.holds Tryz.pinned (OpenSpec.ofChange serviceOffsetsWrong)

/-- 'tramlinelaw07.ServiceChecks': WHATEVER THE INPUT: true; the input reads as it did. -/
def serviceChecksSpec : ChangeSpec := { name := "serviceChecks", fn := fun _ => fun
  | [d1, d2] => { results := [.lit (.bool true)], args := [d1, d2] }
  | _ => none }
def serviceChecksRow : OpenClaim := { program := "ytppebpagcocogaagreat", sum := "6bf9d4145eb074fa18d2873f80ed0d325279c96cffdc342b1fae7b742843b2a5", func := "tramline/tramlinelaw07.ServiceChecks", spec := "serviceChecks", inPlace := ["math.sqrt"], unfollowed := true, recurses := true, plainKeys := false, apart := false }
def ServiceChecksSaid : Prop := serviceChecksRow.holds Tryz.pinned (OpenSpec.ofChange serviceChecksSpec)

/-- ITS FALSE NEIGHBOUR: 'it returns false'. Refute it at one input. -/
def serviceChecksWrong : ChangeSpec := { name := "serviceChecks", fn := fun _ => fun
  | [d1, d2] => { results := [.lit (.bool false)], args := [d1, d2] }
  | _ => none }
def ServiceChecksWrongFalsely : Prop := serviceChecksRow.holds Tryz.pinned (OpenSpec.ofChange serviceChecksWrong)

/-- 'tramlinelaw07.ServiceWaits': WHATEVER THE INPUT: true; the input reads as it did. -/
def serviceWaitsSpec : ChangeSpec := { name := "serviceWaits", fn := fun _ => fun
  | [d1, d2, d3] => { results := [.lit (.bool true)], args := [d1, d2, d3] }
  | _ => none }
def serviceWaitsRow : OpenClaim := { program := "ytppebpagcocogaagreat", sum := "6bf9d4145eb074fa18d2873f80ed0d325279c96cffdc342b1fae7b742843b2a5", func := "tramline/tramlinelaw07.ServiceWaits", spec := "serviceWaits", inPlace := ["math.sqrt"], unfollowed := true, recurses := true, plainKeys := false, apart := false }
def ServiceWaitsSaid : Prop := serviceWaitsRow.holds Tryz.pinned (OpenSpec.ofChange serviceWaitsSpec)

/-- ITS FALSE NEIGHBOUR: 'it returns false'. Refute it at one input. -/
def serviceWaitsWrong : ChangeSpec := { name := "serviceWaits", fn := fun _ => fun
  | [d1, d2, d3] => { results := [.lit (.bool false)], args := [d1, d2, d3] }
  | _ => none }
def ServiceWaitsWrongFalsely : Prop := serviceWaitsRow.holds Tryz.pinned (OpenSpec.ofChange serviceWaitsWrong)

/-- 'tramlinelaw07.ServiceApart': WHATEVER THE INPUT: true; the input reads as it did. -/
def serviceApartSpec : ChangeSpec := { name := "serviceApart", fn := fun _ => fun
  | [d1, d2, d3, d4, d5, d6, d7] => { results := [.lit (.bool true)], args := [d1, d2, d3, d4, d5, d6, d7] }
  | _ => none }
def serviceApartRow : OpenClaim := { program := "ytppebpagcocogaagreat", sum := "6bf9d4145eb074fa18d2873f80ed0d325279c96cffdc342b1fae7b742843b2a5", func := "tramline/tramlinelaw07.ServiceApart", spec := "serviceApart", inPlace := ["math.sqrt"], unfollowed := true, recurses := true, plainKeys := false, apart := false }
def ServiceApartSaid : Prop := serviceApartRow.holds Tryz.pinned (OpenSpec.ofChange serviceApartSpec)

/-- ITS FALSE NEIGHBOUR: 'it returns false'. Refute it at one input. -/
def serviceApartWrong : ChangeSpec := { name := "serviceApart", fn := fun _ => fun
  | [d1, d2, d3, d4, d5, d6, d7] => { results := [.lit (.bool false)], args := [d1, d2, d3, d4, d5, d6, d7] }
  | _ => none }
def ServiceApartWrongFalsely : Prop := serviceApartRow.holds Tryz.pinned (OpenSpec.ofChange serviceApartWrong)

/-- 'tramlinelaw07.ServiceLast': WHATEVER THE INPUT: true; the input reads as it did. -/
def serviceLastSpec : ChangeSpec := { name := "serviceLast", fn := fun _ => fun
  | [d1, d2, d3, d4, d5, d6, d7] => { results := [.lit (.bool true)], args := [d1, d2, d3, d4, d5, d6, d7] }
  | _ => none }
def serviceLastRow : OpenClaim := { program := "ytppebpagcocogaagreat", sum := "6bf9d4145eb074fa18d2873f80ed0d325279c96cffdc342b1fae7b742843b2a5", func := "tramline/tramlinelaw07.ServiceLast", spec := "serviceLast", inPlace := ["math.sqrt"], unfollowed := true, recurses := true, plainKeys := false, apart := false }
def ServiceLastSaid : Prop := serviceLastRow.holds Tryz.pinned (OpenSpec.ofChange serviceLastSpec)

/-- ITS FALSE NEIGHBOUR: 'it returns false'. Refute it at one input. -/
def serviceLastWrong : ChangeSpec := { name := "serviceLast", fn := fun _ => fun
  | [d1, d2, d3, d4, d5, d6, d7] => { results := [.lit (.bool false)], args := [d1, d2, d3, d4, d5, d6, d7] }
  | _ => none }
def ServiceLastWrongFalsely : Prop := serviceLastRow.holds Tryz.pinned (OpenSpec.ofChange serviceLastWrong)

/-- 'tramlinelaw07.ServiceConnects': WHATEVER THE INPUT: true; the input reads as it did. -/
def serviceConnectsSpec : ChangeSpec := { name := "serviceConnects", fn := fun _ => fun
  | [d1, d2, d3, d4] => { results := [.lit (.bool true)], args := [d1, d2, d3, d4] }
  | _ => none }
def serviceConnectsRow : OpenClaim := { program := "ytppebpagcocogaagreat", sum := "6bf9d4145eb074fa18d2873f80ed0d325279c96cffdc342b1fae7b742843b2a5", func := "tramline/tramlinelaw07.ServiceConnects", spec := "serviceConnects", inPlace := ["math.sqrt"], unfollowed := true, recurses := true, plainKeys := false, apart := false }
def ServiceConnectsSaid : Prop := serviceConnectsRow.holds Tryz.pinned (OpenSpec.ofChange serviceConnectsSpec)

/-- ITS FALSE NEIGHBOUR: 'it returns false'. Refute it at one input. -/
def serviceConnectsWrong : ChangeSpec := { name := "serviceConnects", fn := fun _ => fun
  | [d1, d2, d3, d4] => { results := [.lit (.bool false)], args := [d1, d2, d3, d4] }
  | _ => none }
def ServiceConnectsWrongFalsely : Prop := serviceConnectsRow.holds Tryz.pinned (OpenSpec.ofChange serviceConnectsWrong)

/-- 'tramlinelaw07.ServiceTries': WHATEVER THE INPUT: true; the input reads as it did. -/
def serviceTriesSpec : ChangeSpec := { name := "serviceTries", fn := fun _ => fun
  | [d] => { results := [.lit (.bool true)], args := [d] }
  | _ => none }
def serviceTriesRow : OpenClaim := { program := "ytppebpagcocogaagreat", sum := "6bf9d4145eb074fa18d2873f80ed0d325279c96cffdc342b1fae7b742843b2a5", func := "tramline/tramlinelaw07.ServiceTries", spec := "serviceTries", inPlace := ["math.sqrt"], unfollowed := true, recurses := true, plainKeys := false, apart := false }
def ServiceTriesSaid : Prop := serviceTriesRow.holds Tryz.pinned (OpenSpec.ofChange serviceTriesSpec)

/-- ITS FALSE NEIGHBOUR: 'it returns false'. Refute it at one input. -/
def serviceTriesWrong : ChangeSpec := { name := "serviceTries", fn := fun _ => fun
  | [d] => { results := [.lit (.bool false)], args := [d] }
  | _ => none }
def ServiceTriesWrongFalsely : Prop := serviceTriesRow.holds Tryz.pinned (OpenSpec.ofChange serviceTriesWrong)

/-- 'tramlinelaw07.ServiceSlots': WHATEVER THE INPUT: true; the input reads as it did. -/
def serviceSlotsSpec : ChangeSpec := { name := "serviceSlots", fn := fun _ => fun
  | [d1, d2, d3, d4, d5, d6, d7] => { results := [.lit (.bool true)], args := [d1, d2, d3, d4, d5, d6, d7] }
  | _ => none }
def serviceSlotsRow : OpenClaim := { program := "ytppebpagcocogaagreat", sum := "6bf9d4145eb074fa18d2873f80ed0d325279c96cffdc342b1fae7b742843b2a5", func := "tramline/tramlinelaw07.ServiceSlots", spec := "serviceSlots", inPlace := ["math.sqrt"], unfollowed := true, recurses := true, plainKeys := false, apart := false }
def ServiceSlotsSaid : Prop := serviceSlotsRow.holds Tryz.pinned (OpenSpec.ofChange serviceSlotsSpec)

/-- ITS FALSE NEIGHBOUR: 'it returns false'. Refute it at one input. -/
def serviceSlotsWrong : ChangeSpec := { name := "serviceSlots", fn := fun _ => fun
  | [d1, d2, d3, d4, d5, d6, d7] => { results := [.lit (.bool false)], args := [d1, d2, d3, d4, d5, d6, d7] }
  | _ => none }
def ServiceSlotsWrongFalsely : Prop := serviceSlotsRow.holds Tryz.pinned (OpenSpec.ofChange serviceSlotsWrong)

/-- 'tramlinelaw07.ServiceKept': WHATEVER THE INPUT: true; the input reads as it did. -/
def serviceKeptSpec : ChangeSpec := { name := "serviceKept", fn := fun _ => fun
  | [d1, d2, d3, d4] => { results := [.lit (.bool true)], args := [d1, d2, d3, d4] }
  | _ => none }
def serviceKeptRow : OpenClaim := { program := "ytppebpagcocogaagreat", sum := "6bf9d4145eb074fa18d2873f80ed0d325279c96cffdc342b1fae7b742843b2a5", func := "tramline/tramlinelaw07.ServiceKept", spec := "serviceKept", inPlace := ["math.sqrt"], unfollowed := true, recurses := true, plainKeys := false, apart := false }
def ServiceKeptSaid : Prop := serviceKeptRow.holds Tryz.pinned (OpenSpec.ofChange serviceKeptSpec)

/-- ITS FALSE NEIGHBOUR: 'it returns false'. Refute it at one input. -/
def serviceKeptWrong : ChangeSpec := { name := "serviceKept", fn := fun _ => fun
  | [d1, d2, d3, d4] => { results := [.lit (.bool false)], args := [d1, d2, d3, d4] }
  | _ => none }
def ServiceKeptWrongFalsely : Prop := serviceKeptRow.holds Tryz.pinned (OpenSpec.ofChange serviceKeptWrong)

/-- 'tramlinelaw07.ServiceTrips': WHATEVER THE INPUT: true; the input reads as it did. -/
def serviceTripsSpec : ChangeSpec := { name := "serviceTrips", fn := fun _ => fun
  | [d1, d2, d3, d4, d5] => { results := [.lit (.bool true)], args := [d1, d2, d3, d4, d5] }
  | _ => none }
def serviceTripsRow : OpenClaim := { program := "ytppebpagcocogaagreat", sum := "6bf9d4145eb074fa18d2873f80ed0d325279c96cffdc342b1fae7b742843b2a5", func := "tramline/tramlinelaw07.ServiceTrips", spec := "serviceTrips", inPlace := ["math.sqrt"], unfollowed := true, recurses := true, plainKeys := false, apart := false }
def ServiceTripsSaid : Prop := serviceTripsRow.holds Tryz.pinned (OpenSpec.ofChange serviceTripsSpec)

/-- ITS FALSE NEIGHBOUR: 'it returns false'. Refute it at one input. -/
def serviceTripsWrong : ChangeSpec := { name := "serviceTrips", fn := fun _ => fun
  | [d1, d2, d3, d4, d5] => { results := [.lit (.bool false)], args := [d1, d2, d3, d4, d5] }
  | _ => none }
def ServiceTripsWrongFalsely : Prop := serviceTripsRow.holds Tryz.pinned (OpenSpec.ofChange serviceTripsWrong)

/-- 'tramlinelaw07.ServiceMany': WHATEVER THE INPUT: true; the input reads as it did. -/
def serviceManySpec : ChangeSpec := { name := "serviceMany", fn := fun _ => fun
  | [d1, d2] => { results := [.lit (.bool true)], args := [d1, d2] }
  | _ => none }
def serviceManyRow : OpenClaim := { program := "ytppebpagcocogaagreat", sum := "6bf9d4145eb074fa18d2873f80ed0d325279c96cffdc342b1fae7b742843b2a5", func := "tramline/tramlinelaw07.ServiceMany", spec := "serviceMany", inPlace := ["math.sqrt"], unfollowed := true, recurses := true, plainKeys := false, apart := false }
def ServiceManySaid : Prop := serviceManyRow.holds Tryz.pinned (OpenSpec.ofChange serviceManySpec)

/-- ITS FALSE NEIGHBOUR: 'it returns false'. Refute it at one input. -/
def serviceManyWrong : ChangeSpec := { name := "serviceMany", fn := fun _ => fun
  | [d1, d2] => { results := [.lit (.bool false)], args := [d1, d2] }
  | _ => none }
def ServiceManyWrongFalsely : Prop := serviceManyRow.holds Tryz.pinned (OpenSpec.ofChange serviceManyWrong)

/-- 'tramlinelaw07.ServiceTurns': WHATEVER THE INPUT: true; the input reads as it did. -/
def serviceTurnsSpec : ChangeSpec := { name := "serviceTurns", fn := fun _ => fun
  | [d1, d2, d3, d4] => { results := [.lit (.bool true)], args := [d1, d2, d3, d4] }
  | _ => none }
def serviceTurnsRow : OpenClaim := { program := "ytppebpagcocogaagreat", sum := "6bf9d4145eb074fa18d2873f80ed0d325279c96cffdc342b1fae7b742843b2a5", func := "tramline/tramlinelaw07.ServiceTurns", spec := "serviceTurns", inPlace := ["math.sqrt"], unfollowed := true, recurses := true, plainKeys := false, apart := false }
def ServiceTurnsSaid : Prop := serviceTurnsRow.holds Tryz.pinned (OpenSpec.ofChange serviceTurnsSpec)

/-- ITS FALSE NEIGHBOUR: 'it returns false'. Refute it at one input. -/
def serviceTurnsWrong : ChangeSpec := { name := "serviceTurns", fn := fun _ => fun
  | [d1, d2, d3, d4] => { results := [.lit (.bool false)], args := [d1, d2, d3, d4] }
  | _ => none }
def ServiceTurnsWrongFalsely : Prop := serviceTurnsRow.holds Tryz.pinned (OpenSpec.ofChange serviceTurnsWrong)

/- THE SECOND FORM. 'bulk': how many values and letters a reading holds, each counted each time it is reached (what is shared counts as often as it is met; a slice's spare places count too). A statement '..UptoSaid' is the law's where the arguments, and the package variables that the reading takes, are together of bulk at most 1048576: NARROWER than '..Said'. Prove '..Said' where nothing that the law and all that it calls make is longer than what came in: it says more and counts as full. Else prove '..UptoSaid'. A law counts once. -/
mutual
def uptoBulk {H : Type} : DataW H → Nat
  | .lit (.string bytes) => bytes.length + 1
  | .lit _ => 1
  | .nil => 1
  | .ptr d => uptoBulk d + 1
  | .slice elems spare => uptoBulkAll elems + uptoBulkAll spare + 1
  | .agg parts => uptoBulkAll parts + 1
  | .iface _ d => uptoBulk d + 1
  | .map entries => uptoBulkEntries entries + 1
  | .held _ => 1
def uptoBulkAll {H : Type} : List (DataW H) → Nat
  | [] => 0
  | d :: r => uptoBulk d + uptoBulkAll r
def uptoBulkEntries {H : Type} : List (Lit × DataW H) → Nat
  | [] => 0
  | x :: r => uptoBulkEntry x + uptoBulkEntries r
def uptoBulkEntry {H : Type} : Lit × DataW H → Nat
  | (.string bytes, d) => bytes.length + uptoBulk d + 1
  | (_, d) => uptoBulk d + 1
 end
def uptoSmall : (H : Type) → List (DataW H) → Bool := fun _ ds => decide (uptoBulkAll ds ≤ 1048576)
def OpenSpec.upto (s : _root_.Go.ChangeSpec) : _root_.Go.OpenSpec := { _root_.Go.OpenSpec.ofChange s with cond := some uptoSmall }

/-- 'tramlinelaw07.ServiceOffsets', WHERE WHAT IT READS IS OF BULK AT MOST 1048576: true; the input reads as it did. -/
def serviceOffsetsUptoRow : OpenClaim := { program := "ytppebpagcocogaagreat", sum := "6bf9d4145eb074fa18d2873f80ed0d325279c96cffdc342b1fae7b742843b2a5", func := "tramline/tramlinelaw07.ServiceOffsets", spec := "serviceOffsets", inPlace := ["math.sqrt"], unfollowed := true, recurses := true, plainKeys := false, apart := false, narrowed := true }
def ServiceOffsetsUptoSaid : Prop := serviceOffsetsUptoRow.holds Tryz.pinned (OpenSpec.upto serviceOffsetsSpec)

/-- 'tramlinelaw07.ServiceChecks', WHERE WHAT IT READS IS OF BULK AT MOST 1048576: true; the input reads as it did. -/
def serviceChecksUptoRow : OpenClaim := { program := "ytppebpagcocogaagreat", sum := "6bf9d4145eb074fa18d2873f80ed0d325279c96cffdc342b1fae7b742843b2a5", func := "tramline/tramlinelaw07.ServiceChecks", spec := "serviceChecks", inPlace := ["math.sqrt"], unfollowed := true, recurses := true, plainKeys := false, apart := false, narrowed := true }
def ServiceChecksUptoSaid : Prop := serviceChecksUptoRow.holds Tryz.pinned (OpenSpec.upto serviceChecksSpec)

/-- 'tramlinelaw07.ServiceWaits', WHERE WHAT IT READS IS OF BULK AT MOST 1048576: true; the input reads as it did. -/
def serviceWaitsUptoRow : OpenClaim := { program := "ytppebpagcocogaagreat", sum := "6bf9d4145eb074fa18d2873f80ed0d325279c96cffdc342b1fae7b742843b2a5", func := "tramline/tramlinelaw07.ServiceWaits", spec := "serviceWaits", inPlace := ["math.sqrt"], unfollowed := true, recurses := true, plainKeys := false, apart := false, narrowed := true }
def ServiceWaitsUptoSaid : Prop := serviceWaitsUptoRow.holds Tryz.pinned (OpenSpec.upto serviceWaitsSpec)

/-- 'tramlinelaw07.ServiceApart', WHERE WHAT IT READS IS OF BULK AT MOST 1048576: true; the input reads as it did. -/
def serviceApartUptoRow : OpenClaim := { program := "ytppebpagcocogaagreat", sum := "6bf9d4145eb074fa18d2873f80ed0d325279c96cffdc342b1fae7b742843b2a5", func := "tramline/tramlinelaw07.ServiceApart", spec := "serviceApart", inPlace := ["math.sqrt"], unfollowed := true, recurses := true, plainKeys := false, apart := false, narrowed := true }
def ServiceApartUptoSaid : Prop := serviceApartUptoRow.holds Tryz.pinned (OpenSpec.upto serviceApartSpec)

/-- 'tramlinelaw07.ServiceLast', WHERE WHAT IT READS IS OF BULK AT MOST 1048576: true; the input reads as it did. -/
def serviceLastUptoRow : OpenClaim := { program := "ytppebpagcocogaagreat", sum := "6bf9d4145eb074fa18d2873f80ed0d325279c96cffdc342b1fae7b742843b2a5", func := "tramline/tramlinelaw07.ServiceLast", spec := "serviceLast", inPlace := ["math.sqrt"], unfollowed := true, recurses := true, plainKeys := false, apart := false, narrowed := true }
def ServiceLastUptoSaid : Prop := serviceLastUptoRow.holds Tryz.pinned (OpenSpec.upto serviceLastSpec)

/-- 'tramlinelaw07.ServiceConnects', WHERE WHAT IT READS IS OF BULK AT MOST 1048576: true; the input reads as it did. -/
def serviceConnectsUptoRow : OpenClaim := { program := "ytppebpagcocogaagreat", sum := "6bf9d4145eb074fa18d2873f80ed0d325279c96cffdc342b1fae7b742843b2a5", func := "tramline/tramlinelaw07.ServiceConnects", spec := "serviceConnects", inPlace := ["math.sqrt"], unfollowed := true, recurses := true, plainKeys := false, apart := false, narrowed := true }
def ServiceConnectsUptoSaid : Prop := serviceConnectsUptoRow.holds Tryz.pinned (OpenSpec.upto serviceConnectsSpec)

/-- 'tramlinelaw07.ServiceTries', WHERE WHAT IT READS IS OF BULK AT MOST 1048576: true; the input reads as it did. -/
def serviceTriesUptoRow : OpenClaim := { program := "ytppebpagcocogaagreat", sum := "6bf9d4145eb074fa18d2873f80ed0d325279c96cffdc342b1fae7b742843b2a5", func := "tramline/tramlinelaw07.ServiceTries", spec := "serviceTries", inPlace := ["math.sqrt"], unfollowed := true, recurses := true, plainKeys := false, apart := false, narrowed := true }
def ServiceTriesUptoSaid : Prop := serviceTriesUptoRow.holds Tryz.pinned (OpenSpec.upto serviceTriesSpec)

/-- 'tramlinelaw07.ServiceSlots', WHERE WHAT IT READS IS OF BULK AT MOST 1048576: true; the input reads as it did. -/
def serviceSlotsUptoRow : OpenClaim := { program := "ytppebpagcocogaagreat", sum := "6bf9d4145eb074fa18d2873f80ed0d325279c96cffdc342b1fae7b742843b2a5", func := "tramline/tramlinelaw07.ServiceSlots", spec := "serviceSlots", inPlace := ["math.sqrt"], unfollowed := true, recurses := true, plainKeys := false, apart := false, narrowed := true }
def ServiceSlotsUptoSaid : Prop := serviceSlotsUptoRow.holds Tryz.pinned (OpenSpec.upto serviceSlotsSpec)

/-- 'tramlinelaw07.ServiceKept', WHERE WHAT IT READS IS OF BULK AT MOST 1048576: true; the input reads as it did. -/
def serviceKeptUptoRow : OpenClaim := { program := "ytppebpagcocogaagreat", sum := "6bf9d4145eb074fa18d2873f80ed0d325279c96cffdc342b1fae7b742843b2a5", func := "tramline/tramlinelaw07.ServiceKept", spec := "serviceKept", inPlace := ["math.sqrt"], unfollowed := true, recurses := true, plainKeys := false, apart := false, narrowed := true }
def ServiceKeptUptoSaid : Prop := serviceKeptUptoRow.holds Tryz.pinned (OpenSpec.upto serviceKeptSpec)

/-- 'tramlinelaw07.ServiceTrips', WHERE WHAT IT READS IS OF BULK AT MOST 1048576: true; the input reads as it did. -/
def serviceTripsUptoRow : OpenClaim := { program := "ytppebpagcocogaagreat", sum := "6bf9d4145eb074fa18d2873f80ed0d325279c96cffdc342b1fae7b742843b2a5", func := "tramline/tramlinelaw07.ServiceTrips", spec := "serviceTrips", inPlace := ["math.sqrt"], unfollowed := true, recurses := true, plainKeys := false, apart := false, narrowed := true }
def ServiceTripsUptoSaid : Prop := serviceTripsUptoRow.holds Tryz.pinned (OpenSpec.upto serviceTripsSpec)

/-- 'tramlinelaw07.ServiceMany', WHERE WHAT IT READS IS OF BULK AT MOST 1048576: true; the input reads as it did. -/
def serviceManyUptoRow : OpenClaim := { program := "ytppebpagcocogaagreat", sum := "6bf9d4145eb074fa18d2873f80ed0d325279c96cffdc342b1fae7b742843b2a5", func := "tramline/tramlinelaw07.ServiceMany", spec := "serviceMany", inPlace := ["math.sqrt"], unfollowed := true, recurses := true, plainKeys := false, apart := false, narrowed := true }
def ServiceManyUptoSaid : Prop := serviceManyUptoRow.holds Tryz.pinned (OpenSpec.upto serviceManySpec)

/-- 'tramlinelaw07.ServiceTurns', WHERE WHAT IT READS IS OF BULK AT MOST 1048576: true; the input reads as it did. -/
def serviceTurnsUptoRow : OpenClaim := { program := "ytppebpagcocogaagreat", sum := "6bf9d4145eb074fa18d2873f80ed0d325279c96cffdc342b1fae7b742843b2a5", func := "tramline/tramlinelaw07.ServiceTurns", spec := "serviceTurns", inPlace := ["math.sqrt"], unfollowed := true, recurses := true, plainKeys := false, apart := false, narrowed := true }
def ServiceTurnsUptoSaid : Prop := serviceTurnsUptoRow.holds Tryz.pinned (OpenSpec.upto serviceTurnsSpec)

end Rows
end Go.Proofs.YtppebpagcocogaaGreat
