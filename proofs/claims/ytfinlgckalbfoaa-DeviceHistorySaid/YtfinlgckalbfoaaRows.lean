/-
  No cell of these rows narrows 'for every input' (looked for: loops, veiled, ifaces, maps, wideKeys, modest, calm, conditions, laid).
  DERIVED. THE GIVEN ROWS OF THIS SEAT. 4 by the template 'for every input the law returns true; each argument reads behind the call as it read before'; 0 by the template 'total and deterministic' (their statements: YtfinlgckalbfoaaTotals.lean).
  GIVEN WITH THE SEED: the statements are not yours to turn. If you find one false, say at which input.
  Laid BY PROGRAM, IN A SANDBOX (cutbox-rows.mjs): the forced cells as the released guide's own fill.sh prints them over the translation 60d5c760cb57492e… (all of the seat's roots in one cut). By AI agents, Wed Nov 11 2026. No macro, syntax, notation, axiom, sorry.
-/
import Derived.Test.YtfinlgckalbfoaaChecked
import GoSem.Claim
import GoSem.ClaimJoined
import GoSem.ClaimMapViews
import Derived.JoinedTies
import Derived.KernelRfl
namespace Go.Proofs.Ytfinlgckalbfoaa
/- THE CELL 'sum', in the pinned program and in every row, IS THE sha256 OF THE DUMP (.gsa) THAT YtfinlgckalbfoaaProg.lean LOADS. Nothing in Lean hashes anything: it is a label: what it is worth is what the hold of that sum in a sandbox is worth. -/
noncomputable def Try.pinned : Pinned := { name := "ytfinlgckalbfoaa", sum := "60d5c760cb57492e81b124a4f352431394d6378c7a15c5f5c603216e0d61d5c1", checked := Try.checked }
namespace Rows
def none {H : Type} : Left H := { results := [], args := [] }

/-- 'mapmakerlaw54.DeviceLimits': WHATEVER THE INPUT: true; the input reads as it did. -/
def deviceLimitsSpec : ChangeSpec := { name := "deviceLimits", fn := fun _ => fun
  | [d1, d2, d3] => { results := [.lit (.bool true)], args := [d1, d2, d3] }
  | _ => none }
def deviceLimitsRow : OpenClaim := { program := "ytfinlgckalbfoaa", sum := "60d5c760cb57492e81b124a4f352431394d6378c7a15c5f5c603216e0d61d5c1", func := "mapmaker/mapmakerlaw54.DeviceLimits", spec := "deviceLimits", apart := false }
def DeviceLimitsSaid : Prop := deviceLimitsRow.holds Try.pinned (OpenSpec.ofChange deviceLimitsSpec)

/-- ITS FALSE NEIGHBOUR: 'it returns false'. Refute it at one input. -/
def deviceLimitsWrong : ChangeSpec := { name := "deviceLimits", fn := fun _ => fun
  | [d1, d2, d3] => { results := [.lit (.bool false)], args := [d1, d2, d3] }
  | _ => none }
def DeviceLimitsWrongFalsely : Prop := deviceLimitsRow.holds Try.pinned (OpenSpec.ofChange deviceLimitsWrong)

/-- 'mapmakerlaw54.DevicePlays': WHATEVER THE INPUT: true; the input reads as it did. -/
def devicePlaysSpec : ChangeSpec := { name := "devicePlays", fn := fun _ => fun
  | [d1, d2] => { results := [.lit (.bool true)], args := [d1, d2] }
  | _ => none }
def devicePlaysRow : OpenClaim := { program := "ytfinlgckalbfoaa", sum := "60d5c760cb57492e81b124a4f352431394d6378c7a15c5f5c603216e0d61d5c1", func := "mapmaker/mapmakerlaw54.DevicePlays", spec := "devicePlays", apart := false }
def DevicePlaysSaid : Prop := devicePlaysRow.holds Try.pinned (OpenSpec.ofChange devicePlaysSpec)

/-- ITS FALSE NEIGHBOUR: 'it returns false'. Refute it at one input. -/
def devicePlaysWrong : ChangeSpec := { name := "devicePlays", fn := fun _ => fun
  | [d1, d2] => { results := [.lit (.bool false)], args := [d1, d2] }
  | _ => none }
def DevicePlaysWrongFalsely : Prop := devicePlaysRow.holds Try.pinned (OpenSpec.ofChange devicePlaysWrong)

/-- 'mapmakerlaw54.DeviceSizes': WHATEVER THE INPUT: true; the input reads as it did. -/
def deviceSizesSpec : ChangeSpec := { name := "deviceSizes", fn := fun _ => fun
  | [d1, d2] => { results := [.lit (.bool true)], args := [d1, d2] }
  | _ => none }
def deviceSizesRow : OpenClaim := { program := "ytfinlgckalbfoaa", sum := "60d5c760cb57492e81b124a4f352431394d6378c7a15c5f5c603216e0d61d5c1", func := "mapmaker/mapmakerlaw54.DeviceSizes", spec := "deviceSizes", apart := false }
def DeviceSizesSaid : Prop := deviceSizesRow.holds Try.pinned (OpenSpec.ofChange deviceSizesSpec)

/-- ITS FALSE NEIGHBOUR: 'it returns false'. Refute it at one input. -/
def deviceSizesWrong : ChangeSpec := { name := "deviceSizes", fn := fun _ => fun
  | [d1, d2] => { results := [.lit (.bool false)], args := [d1, d2] }
  | _ => none }
def DeviceSizesWrongFalsely : Prop := deviceSizesRow.holds Try.pinned (OpenSpec.ofChange deviceSizesWrong)

/-- 'mapmakerlaw54.DeviceHistory': WHATEVER THE INPUT: true; the input reads as it did. -/
def deviceHistorySpec : ChangeSpec := { name := "deviceHistory", fn := fun _ => fun
  | [d1, d2, d3] => { results := [.lit (.bool true)], args := [d1, d2, d3] }
  | _ => none }
def deviceHistoryRow : OpenClaim := { program := "ytfinlgckalbfoaa", sum := "60d5c760cb57492e81b124a4f352431394d6378c7a15c5f5c603216e0d61d5c1", func := "mapmaker/mapmakerlaw54.DeviceHistory", spec := "deviceHistory", apart := false }
def DeviceHistorySaid : Prop := deviceHistoryRow.holds Try.pinned (OpenSpec.ofChange deviceHistorySpec)

/-- ITS FALSE NEIGHBOUR: 'it returns false'. Refute it at one input. -/
def deviceHistoryWrong : ChangeSpec := { name := "deviceHistory", fn := fun _ => fun
  | [d1, d2, d3] => { results := [.lit (.bool false)], args := [d1, d2, d3] }
  | _ => none }
def DeviceHistoryWrongFalsely : Prop := deviceHistoryRow.holds Try.pinned (OpenSpec.ofChange deviceHistoryWrong)

/- THE SECOND FORM. 'bulk': how many values and letters a reading holds, each counted each time it is reached (what is shared counts as often as it is met; a slice's spare places count too). A statement '..UptoSaid' is the law's where the arguments, and the package variables that the reading takes, are together of bulk at most 1048576: NARROWER than '..Said'. Prove '..Said' where nothing that the law and all that it calls make is longer than what came in: it says more and counts as full. Else prove '..UptoSaid'. A law counts once. -/
mutual
def uptoBulk {H : Type} : DataW H → Nat
  | .lit (.string bytes) => bytes.length + 1
  | .lit _ => 1
  | .nil => 1
  | .ptr d => uptoBulk d + 1
  | .slice elems spare => uptoBulkAll elems + uptoBulkAll spare + 1
  | .agg parts => uptoBulkAll parts + 1
  | .iface _ d => uptoBulk d + 1
  | .map entries => uptoBulkEntries entries + 1
  | .held _ => 1
def uptoBulkAll {H : Type} : List (DataW H) → Nat
  | [] => 0
  | d :: r => uptoBulk d + uptoBulkAll r
def uptoBulkEntries {H : Type} : List (Lit × DataW H) → Nat
  | [] => 0
  | x :: r => uptoBulkEntry x + uptoBulkEntries r
def uptoBulkEntry {H : Type} : Lit × DataW H → Nat
  | (.string bytes, d) => bytes.length + uptoBulk d + 1
  | (_, d) => uptoBulk d + 1
 end
def uptoSmall : (H : Type) → List (DataW H) → Bool := fun _ ds => decide (uptoBulkAll ds ≤ 1048576)
def OpenSpec.upto (s : _root_.Go.ChangeSpec) : _root_.Go.OpenSpec := { _root_.Go.OpenSpec.ofChange s with cond := some uptoSmall }

/-- 'mapmakerlaw54.DeviceLimits', WHERE WHAT IT READS IS OF BULK AT MOST 1048576: true; the input reads as it did. -/
def deviceLimitsUptoRow : OpenClaim := { program := "ytfinlgckalbfoaa", sum := "60d5c760cb57492e81b124a4f352431394d6378c7a15c5f5c603216e0d61d5c1", func := "mapmaker/mapmakerlaw54.DeviceLimits", spec := "deviceLimits", apart := false, narrowed := true }
def DeviceLimitsUptoSaid : Prop := deviceLimitsUptoRow.holds Try.pinned (OpenSpec.upto deviceLimitsSpec)

/-- 'mapmakerlaw54.DevicePlays', WHERE WHAT IT READS IS OF BULK AT MOST 1048576: true; the input reads as it did. -/
def devicePlaysUptoRow : OpenClaim := { program := "ytfinlgckalbfoaa", sum := "60d5c760cb57492e81b124a4f352431394d6378c7a15c5f5c603216e0d61d5c1", func := "mapmaker/mapmakerlaw54.DevicePlays", spec := "devicePlays", apart := false, narrowed := true }
def DevicePlaysUptoSaid : Prop := devicePlaysUptoRow.holds Try.pinned (OpenSpec.upto devicePlaysSpec)

/-- 'mapmakerlaw54.DeviceSizes', WHERE WHAT IT READS IS OF BULK AT MOST 1048576: true; the input reads as it did. -/
def deviceSizesUptoRow : OpenClaim := { program := "ytfinlgckalbfoaa", sum := "60d5c760cb57492e81b124a4f352431394d6378c7a15c5f5c603216e0d61d5c1", func := "mapmaker/mapmakerlaw54.DeviceSizes", spec := "deviceSizes", apart := false, narrowed := true }
def DeviceSizesUptoSaid : Prop := deviceSizesUptoRow.holds Try.pinned (OpenSpec.upto deviceSizesSpec)

/-- 'mapmakerlaw54.DeviceHistory', WHERE WHAT IT READS IS OF BULK AT MOST 1048576: true; the input reads as it did. -/
def deviceHistoryUptoRow : OpenClaim := { program := "ytfinlgckalbfoaa", sum := "60d5c760cb57492e81b124a4f352431394d6378c7a15c5f5c603216e0d61d5c1", func := "mapmaker/mapmakerlaw54.DeviceHistory", spec := "deviceHistory", apart := false, narrowed := true }
def DeviceHistoryUptoSaid : Prop := deviceHistoryUptoRow.holds Try.pinned (OpenSpec.upto deviceHistorySpec)

end Rows
end Go.Proofs.Ytfinlgckalbfoaa
