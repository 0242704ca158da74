/-
  No cell of these rows narrows 'for every input' (looked for: loops, veiled, ifaces, maps, wideKeys, modest, calm, conditions, laid).
  DERIVED. THE GIVEN ROWS OF THIS SEAT. 5 by the template 'for every input the law returns true; each argument reads behind the call as it read before'; 0 by the template 'total and deterministic' (their statements: YtpjeomjingocbaaTotals.lean).
  GIVEN WITH THE SEED: the statements are not yours to turn. If you find one false, say at which input.
  Laid BY PROGRAM, IN A SANDBOX (cutbox-rows.mjs): the forced cells as the released guide's own fill.sh prints them over the translation 14ad8e6370aeff45… (all of the seat's roots in one cut). By AI agents, Wed Nov 11 2026. No macro, syntax, notation, axiom, sorry.
-/
import Derived.Test.YtpjeomjingocbaaChecked
import GoSem.Claim
import GoSem.ClaimJoined
import GoSem.ClaimMapViews
import Derived.JoinedTies
import Derived.KernelRfl
namespace Go.Proofs.Ytpjeomjingocbaa
/- THE CELL 'sum', in the pinned program and in every row, IS THE sha256 OF THE DUMP (.gsa) THAT YtpjeomjingocbaaProg.lean LOADS. Nothing in Lean hashes anything: it is a label: what it is worth is what the hold of that sum in a sandbox is worth. -/
noncomputable def Try.pinned : Pinned := { name := "ytpjeomjingocbaa", sum := "14ad8e6370aeff459b2eb234432b7e50c61f7c624e911df08e4b4401d53735c5", checked := Try.checked }
namespace Rows
def none {H : Type} : Left H := { results := [], args := [] }

/-- 'mapmakerlaw48.TrafficChecks': WHATEVER THE INPUT: true; the input reads as it did. -/
def trafficChecksSpec : ChangeSpec := { name := "trafficChecks", fn := fun _ => fun
  | [d] => { results := [.lit (.bool true)], args := [d] }
  | _ => none }
def trafficChecksRow : OpenClaim := { program := "ytpjeomjingocbaa", sum := "14ad8e6370aeff459b2eb234432b7e50c61f7c624e911df08e4b4401d53735c5", func := "mapmaker/mapmakerlaw48.TrafficChecks", spec := "trafficChecks", named := ["math/bits.divideError", "math/bits.overflowError"], apart := false }
def TrafficChecksSaid : Prop := trafficChecksRow.holds Try.pinned (OpenSpec.ofChange trafficChecksSpec)

/-- ITS FALSE NEIGHBOUR: 'it returns false'. Refute it at one input. -/
def trafficChecksWrong : ChangeSpec := { name := "trafficChecks", fn := fun _ => fun
  | [d] => { results := [.lit (.bool false)], args := [d] }
  | _ => none }
def TrafficChecksWrongFalsely : Prop := trafficChecksRow.holds Try.pinned (OpenSpec.ofChange trafficChecksWrong)

/-- 'mapmakerlaw48.TrafficWeights': WHATEVER THE INPUT: true; the input reads as it did. -/
def trafficWeightsSpec : ChangeSpec := { name := "trafficWeights", fn := fun _ => fun
  | [d1, d2, d3] => { results := [.lit (.bool true)], args := [d1, d2, d3] }
  | _ => none }
def trafficWeightsRow : OpenClaim := { program := "ytpjeomjingocbaa", sum := "14ad8e6370aeff459b2eb234432b7e50c61f7c624e911df08e4b4401d53735c5", func := "mapmaker/mapmakerlaw48.TrafficWeights", spec := "trafficWeights", named := ["math/bits.divideError", "math/bits.overflowError"], apart := false }
def TrafficWeightsSaid : Prop := trafficWeightsRow.holds Try.pinned (OpenSpec.ofChange trafficWeightsSpec)

/-- ITS FALSE NEIGHBOUR: 'it returns false'. Refute it at one input. -/
def trafficWeightsWrong : ChangeSpec := { name := "trafficWeights", fn := fun _ => fun
  | [d1, d2, d3] => { results := [.lit (.bool false)], args := [d1, d2, d3] }
  | _ => none }
def TrafficWeightsWrongFalsely : Prop := trafficWeightsRow.holds Try.pinned (OpenSpec.ofChange trafficWeightsWrong)

/-- 'mapmakerlaw48.TrafficLast': WHATEVER THE INPUT: true; the input reads as it did. -/
def trafficLastSpec : ChangeSpec := { name := "trafficLast", fn := fun _ => fun
  | [d1, d2, d3] => { results := [.lit (.bool true)], args := [d1, d2, d3] }
  | _ => none }
def trafficLastRow : OpenClaim := { program := "ytpjeomjingocbaa", sum := "14ad8e6370aeff459b2eb234432b7e50c61f7c624e911df08e4b4401d53735c5", func := "mapmaker/mapmakerlaw48.TrafficLast", spec := "trafficLast", named := ["math/bits.divideError", "math/bits.overflowError"], apart := false }
def TrafficLastSaid : Prop := trafficLastRow.holds Try.pinned (OpenSpec.ofChange trafficLastSpec)

/-- ITS FALSE NEIGHBOUR: 'it returns false'. Refute it at one input. -/
def trafficLastWrong : ChangeSpec := { name := "trafficLast", fn := fun _ => fun
  | [d1, d2, d3] => { results := [.lit (.bool false)], args := [d1, d2, d3] }
  | _ => none }
def TrafficLastWrongFalsely : Prop := trafficLastRow.holds Try.pinned (OpenSpec.ofChange trafficLastWrong)

/-- 'mapmakerlaw48.TrafficChanges': WHATEVER THE INPUT: true; the input reads as it did. -/
def trafficChangesSpec : ChangeSpec := { name := "trafficChanges", fn := fun _ => fun
  | [d1, d2] => { results := [.lit (.bool true)], args := [d1, d2] }
  | _ => none }
def trafficChangesRow : OpenClaim := { program := "ytpjeomjingocbaa", sum := "14ad8e6370aeff459b2eb234432b7e50c61f7c624e911df08e4b4401d53735c5", func := "mapmaker/mapmakerlaw48.TrafficChanges", spec := "trafficChanges", named := ["math/bits.divideError", "math/bits.overflowError"], apart := false }
def TrafficChangesSaid : Prop := trafficChangesRow.holds Try.pinned (OpenSpec.ofChange trafficChangesSpec)

/-- ITS FALSE NEIGHBOUR: 'it returns false'. Refute it at one input. -/
def trafficChangesWrong : ChangeSpec := { name := "trafficChanges", fn := fun _ => fun
  | [d1, d2] => { results := [.lit (.bool false)], args := [d1, d2] }
  | _ => none }
def TrafficChangesWrongFalsely : Prop := trafficChangesRow.holds Try.pinned (OpenSpec.ofChange trafficChangesWrong)

/-- 'mapmakerlaw48.TrafficSets': WHATEVER THE INPUT: true; the input reads as it did. -/
def trafficSetsSpec : ChangeSpec := { name := "trafficSets", fn := fun _ => fun
  | [d1, d2] => { results := [.lit (.bool true)], args := [d1, d2] }
  | _ => none }
def trafficSetsRow : OpenClaim := { program := "ytpjeomjingocbaa", sum := "14ad8e6370aeff459b2eb234432b7e50c61f7c624e911df08e4b4401d53735c5", func := "mapmaker/mapmakerlaw48.TrafficSets", spec := "trafficSets", named := ["math/bits.divideError", "math/bits.overflowError"], apart := false }
def TrafficSetsSaid : Prop := trafficSetsRow.holds Try.pinned (OpenSpec.ofChange trafficSetsSpec)

/-- ITS FALSE NEIGHBOUR: 'it returns false'. Refute it at one input. -/
def trafficSetsWrong : ChangeSpec := { name := "trafficSets", fn := fun _ => fun
  | [d1, d2] => { results := [.lit (.bool false)], args := [d1, d2] }
  | _ => none }
def TrafficSetsWrongFalsely : Prop := trafficSetsRow.holds Try.pinned (OpenSpec.ofChange trafficSetsWrong)

/- THE SECOND FORM. 'bulk': how many values and letters a reading holds, each counted each time it is reached (what is shared counts as often as it is met; a slice's spare places count too). A statement '..UptoSaid' is the law's where the arguments, and the package variables that the reading takes, are together of bulk at most 1048576: NARROWER than '..Said'. Prove '..Said' where nothing that the law and all that it calls make is longer than what came in: it says more and counts as full. Else prove '..UptoSaid'. A law counts once. -/
mutual
def uptoBulk {H : Type} : DataW H → Nat
  | .lit (.string bytes) => bytes.length + 1
  | .lit _ => 1
  | .nil => 1
  | .ptr d => uptoBulk d + 1
  | .slice elems spare => uptoBulkAll elems + uptoBulkAll spare + 1
  | .agg parts => uptoBulkAll parts + 1
  | .iface _ d => uptoBulk d + 1
  | .map entries => uptoBulkEntries entries + 1
  | .held _ => 1
def uptoBulkAll {H : Type} : List (DataW H) → Nat
  | [] => 0
  | d :: r => uptoBulk d + uptoBulkAll r
def uptoBulkEntries {H : Type} : List (Lit × DataW H) → Nat
  | [] => 0
  | x :: r => uptoBulkEntry x + uptoBulkEntries r
def uptoBulkEntry {H : Type} : Lit × DataW H → Nat
  | (.string bytes, d) => bytes.length + uptoBulk d + 1
  | (_, d) => uptoBulk d + 1
 end
def uptoSmall : (H : Type) → List (DataW H) → Bool := fun _ ds => decide (uptoBulkAll ds ≤ 1048576)
def OpenSpec.upto (s : _root_.Go.ChangeSpec) : _root_.Go.OpenSpec := { _root_.Go.OpenSpec.ofChange s with cond := some uptoSmall }

/-- 'mapmakerlaw48.TrafficChecks', WHERE WHAT IT READS IS OF BULK AT MOST 1048576: true; the input reads as it did. -/
def trafficChecksUptoRow : OpenClaim := { program := "ytpjeomjingocbaa", sum := "14ad8e6370aeff459b2eb234432b7e50c61f7c624e911df08e4b4401d53735c5", func := "mapmaker/mapmakerlaw48.TrafficChecks", spec := "trafficChecks", named := ["math/bits.divideError", "math/bits.overflowError"], apart := false, narrowed := true }
def TrafficChecksUptoSaid : Prop := trafficChecksUptoRow.holds Try.pinned (OpenSpec.upto trafficChecksSpec)

/-- 'mapmakerlaw48.TrafficWeights', WHERE WHAT IT READS IS OF BULK AT MOST 1048576: true; the input reads as it did. -/
def trafficWeightsUptoRow : OpenClaim := { program := "ytpjeomjingocbaa", sum := "14ad8e6370aeff459b2eb234432b7e50c61f7c624e911df08e4b4401d53735c5", func := "mapmaker/mapmakerlaw48.TrafficWeights", spec := "trafficWeights", named := ["math/bits.divideError", "math/bits.overflowError"], apart := false, narrowed := true }
def TrafficWeightsUptoSaid : Prop := trafficWeightsUptoRow.holds Try.pinned (OpenSpec.upto trafficWeightsSpec)

/-- 'mapmakerlaw48.TrafficLast', WHERE WHAT IT READS IS OF BULK AT MOST 1048576: true; the input reads as it did. -/
def trafficLastUptoRow : OpenClaim := { program := "ytpjeomjingocbaa", sum := "14ad8e6370aeff459b2eb234432b7e50c61f7c624e911df08e4b4401d53735c5", func := "mapmaker/mapmakerlaw48.TrafficLast", spec := "trafficLast", named := ["math/bits.divideError", "math/bits.overflowError"], apart := false, narrowed := true }
def TrafficLastUptoSaid : Prop := trafficLastUptoRow.holds Try.pinned (OpenSpec.upto trafficLastSpec)

/-- 'mapmakerlaw48.TrafficChanges', WHERE WHAT IT READS IS OF BULK AT MOST 1048576: true; the input reads as it did. -/
def trafficChangesUptoRow : OpenClaim := { program := "ytpjeomjingocbaa", sum := "14ad8e6370aeff459b2eb234432b7e50c61f7c624e911df08e4b4401d53735c5", func := "mapmaker/mapmakerlaw48.TrafficChanges", spec := "trafficChanges", named := ["math/bits.divideError", "math/bits.overflowError"], apart := false, narrowed := true }
def TrafficChangesUptoSaid : Prop := trafficChangesUptoRow.holds Try.pinned (OpenSpec.upto trafficChangesSpec)

/-- 'mapmakerlaw48.TrafficSets', WHERE WHAT IT READS IS OF BULK AT MOST 1048576: true; the input reads as it did. -/
def trafficSetsUptoRow : OpenClaim := { program := "ytpjeomjingocbaa", sum := "14ad8e6370aeff459b2eb234432b7e50c61f7c624e911df08e4b4401d53735c5", func := "mapmaker/mapmakerlaw48.TrafficSets", spec := "trafficSets", named := ["math/bits.divideError", "math/bits.overflowError"], apart := false, narrowed := true }
def TrafficSetsUptoSaid : Prop := trafficSetsUptoRow.holds Try.pinned (OpenSpec.upto trafficSetsSpec)

end Rows
end Go.Proofs.Ytpjeomjingocbaa
