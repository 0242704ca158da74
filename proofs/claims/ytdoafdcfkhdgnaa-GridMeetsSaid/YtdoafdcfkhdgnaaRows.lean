/-
  No cell of these rows narrows 'for every input' (looked for: loops, veiled, ifaces, maps, wideKeys, modest, calm, conditions, laid).
  DERIVED. THE GIVEN ROWS OF THIS SEAT. 5 by the template 'for every input the law returns true; each argument reads behind the call as it read before'; 0 by the template 'total and deterministic' (their statements: YtdoafdcfkhdgnaaTotals.lean).
  GIVEN WITH THE SEED: the statements are not yours to turn. If you find one false, say at which input.
  Laid BY PROGRAM, IN A SANDBOX (cutbox-rows.mjs): the forced cells as the released guide's own fill.sh prints them over the translation 5f8bea407a24f3aa… (all of the seat's roots in one cut). By AI agents, Wed Nov 11 2026. No macro, syntax, notation, axiom, sorry.
-/
import Derived.Test.YtdoafdcfkhdgnaaChecked
import GoSem.Claim
import GoSem.ClaimJoined
import GoSem.ClaimMapViews
import Derived.JoinedTies
import Derived.KernelRfl
namespace Go.Proofs.Ytdoafdcfkhdgnaa
/- THE CELL 'sum', in the pinned program and in every row, IS THE sha256 OF THE DUMP (.gsa) THAT YtdoafdcfkhdgnaaProg.lean LOADS. Nothing in Lean hashes anything: it is a label: what it is worth is what the hold of that sum in a sandbox is worth. -/
noncomputable def Try.pinned : Pinned := { name := "ytdoafdcfkhdgnaa", sum := "5f8bea407a24f3aaaf8a08cb8bb7c69008377a7262f797dedf98353e319964c2", checked := Try.checked }
namespace Rows
def none {H : Type} : Left H := { results := [], args := [] }

/-- 'mapmakerlaw08.GridBoxes': WHATEVER THE INPUT: true; the input reads as it did. -/
def gridBoxesSpec : ChangeSpec := { name := "gridBoxes", fn := fun _ => fun
  | [d1, d2, d3] => { results := [.lit (.bool true)], args := [d1, d2, d3] }
  | _ => none }
def gridBoxesRow : OpenClaim := { program := "ytdoafdcfkhdgnaa", sum := "5f8bea407a24f3aaaf8a08cb8bb7c69008377a7262f797dedf98353e319964c2", func := "mapmaker/mapmakerlaw08.GridBoxes", spec := "gridBoxes", apart := false }
def GridBoxesSaid : Prop := gridBoxesRow.holds Try.pinned (OpenSpec.ofChange gridBoxesSpec)

/-- ITS FALSE NEIGHBOUR: 'it returns false'. Refute it at one input. -/
def gridBoxesWrong : ChangeSpec := { name := "gridBoxes", fn := fun _ => fun
  | [d1, d2, d3] => { results := [.lit (.bool false)], args := [d1, d2, d3] }
  | _ => none }
def GridBoxesWrongFalsely : Prop := gridBoxesRow.holds Try.pinned (OpenSpec.ofChange gridBoxesWrong)

/-- 'mapmakerlaw08.GridPoints': WHATEVER THE INPUT: true; the input reads as it did. -/
def gridPointsSpec : ChangeSpec := { name := "gridPoints", fn := fun _ => fun
  | [d1, d2, d3] => { results := [.lit (.bool true)], args := [d1, d2, d3] }
  | _ => none }
def gridPointsRow : OpenClaim := { program := "ytdoafdcfkhdgnaa", sum := "5f8bea407a24f3aaaf8a08cb8bb7c69008377a7262f797dedf98353e319964c2", func := "mapmaker/mapmakerlaw08.GridPoints", spec := "gridPoints", apart := false }
def GridPointsSaid : Prop := gridPointsRow.holds Try.pinned (OpenSpec.ofChange gridPointsSpec)

/-- ITS FALSE NEIGHBOUR: 'it returns false'. Refute it at one input. -/
def gridPointsWrong : ChangeSpec := { name := "gridPoints", fn := fun _ => fun
  | [d1, d2, d3] => { results := [.lit (.bool false)], args := [d1, d2, d3] }
  | _ => none }
def GridPointsWrongFalsely : Prop := gridPointsRow.holds Try.pinned (OpenSpec.ofChange gridPointsWrong)

/-- 'mapmakerlaw08.GridMeets': WHATEVER THE INPUT: true; the input reads as it did. -/
def gridMeetsSpec : ChangeSpec := { name := "gridMeets", fn := fun _ => fun
  | [d1, d2, d3] => { results := [.lit (.bool true)], args := [d1, d2, d3] }
  | _ => none }
def gridMeetsRow : OpenClaim := { program := "ytdoafdcfkhdgnaa", sum := "5f8bea407a24f3aaaf8a08cb8bb7c69008377a7262f797dedf98353e319964c2", func := "mapmaker/mapmakerlaw08.GridMeets", spec := "gridMeets", apart := false }
def GridMeetsSaid : Prop := gridMeetsRow.holds Try.pinned (OpenSpec.ofChange gridMeetsSpec)

/-- ITS FALSE NEIGHBOUR: 'it returns false'. Refute it at one input. -/
def gridMeetsWrong : ChangeSpec := { name := "gridMeets", fn := fun _ => fun
  | [d1, d2, d3] => { results := [.lit (.bool false)], args := [d1, d2, d3] }
  | _ => none }
def GridMeetsWrongFalsely : Prop := gridMeetsRow.holds Try.pinned (OpenSpec.ofChange gridMeetsWrong)

/-- 'mapmakerlaw08.GridProjects': WHATEVER THE INPUT: true; the input reads as it did. -/
def gridProjectsSpec : ChangeSpec := { name := "gridProjects", fn := fun _ => fun
  | [d1, d2] => { results := [.lit (.bool true)], args := [d1, d2] }
  | _ => none }
def gridProjectsRow : OpenClaim := { program := "ytdoafdcfkhdgnaa", sum := "5f8bea407a24f3aaaf8a08cb8bb7c69008377a7262f797dedf98353e319964c2", func := "mapmaker/mapmakerlaw08.GridProjects", spec := "gridProjects", apart := false }
def GridProjectsSaid : Prop := gridProjectsRow.holds Try.pinned (OpenSpec.ofChange gridProjectsSpec)

/-- ITS FALSE NEIGHBOUR: 'it returns false'. Refute it at one input. -/
def gridProjectsWrong : ChangeSpec := { name := "gridProjects", fn := fun _ => fun
  | [d1, d2] => { results := [.lit (.bool false)], args := [d1, d2] }
  | _ => none }
def GridProjectsWrongFalsely : Prop := gridProjectsRow.holds Try.pinned (OpenSpec.ofChange gridProjectsWrong)

/-- 'mapmakerlaw08.GridInverse': WHATEVER THE INPUT: true; the input reads as it did. -/
def gridInverseSpec : ChangeSpec := { name := "gridInverse", fn := fun _ => fun
  | [d1, d2, d3] => { results := [.lit (.bool true)], args := [d1, d2, d3] }
  | _ => none }
def gridInverseRow : OpenClaim := { program := "ytdoafdcfkhdgnaa", sum := "5f8bea407a24f3aaaf8a08cb8bb7c69008377a7262f797dedf98353e319964c2", func := "mapmaker/mapmakerlaw08.GridInverse", spec := "gridInverse", apart := false }
def GridInverseSaid : Prop := gridInverseRow.holds Try.pinned (OpenSpec.ofChange gridInverseSpec)

/-- ITS FALSE NEIGHBOUR: 'it returns false'. Refute it at one input. -/
def gridInverseWrong : ChangeSpec := { name := "gridInverse", fn := fun _ => fun
  | [d1, d2, d3] => { results := [.lit (.bool false)], args := [d1, d2, d3] }
  | _ => none }
def GridInverseWrongFalsely : Prop := gridInverseRow.holds Try.pinned (OpenSpec.ofChange gridInverseWrong)

/- THE SECOND FORM. 'bulk': how many values and letters a reading holds, each counted each time it is reached (what is shared counts as often as it is met; a slice's spare places count too). A statement '..UptoSaid' is the law's where the arguments, and the package variables that the reading takes, are together of bulk at most 1048576: NARROWER than '..Said'. Prove '..Said' where nothing that the law and all that it calls make is longer than what came in: it says more and counts as full. Else prove '..UptoSaid'. A law counts once. -/
mutual
def uptoBulk {H : Type} : DataW H → Nat
  | .lit (.string bytes) => bytes.length + 1
  | .lit _ => 1
  | .nil => 1
  | .ptr d => uptoBulk d + 1
  | .slice elems spare => uptoBulkAll elems + uptoBulkAll spare + 1
  | .agg parts => uptoBulkAll parts + 1
  | .iface _ d => uptoBulk d + 1
  | .map entries => uptoBulkEntries entries + 1
  | .held _ => 1
def uptoBulkAll {H : Type} : List (DataW H) → Nat
  | [] => 0
  | d :: r => uptoBulk d + uptoBulkAll r
def uptoBulkEntries {H : Type} : List (Lit × DataW H) → Nat
  | [] => 0
  | x :: r => uptoBulkEntry x + uptoBulkEntries r
def uptoBulkEntry {H : Type} : Lit × DataW H → Nat
  | (.string bytes, d) => bytes.length + uptoBulk d + 1
  | (_, d) => uptoBulk d + 1
 end
def uptoSmall : (H : Type) → List (DataW H) → Bool := fun _ ds => decide (uptoBulkAll ds ≤ 1048576)
def OpenSpec.upto (s : _root_.Go.ChangeSpec) : _root_.Go.OpenSpec := { _root_.Go.OpenSpec.ofChange s with cond := some uptoSmall }

/-- 'mapmakerlaw08.GridBoxes', WHERE WHAT IT READS IS OF BULK AT MOST 1048576: true; the input reads as it did. -/
def gridBoxesUptoRow : OpenClaim := { program := "ytdoafdcfkhdgnaa", sum := "5f8bea407a24f3aaaf8a08cb8bb7c69008377a7262f797dedf98353e319964c2", func := "mapmaker/mapmakerlaw08.GridBoxes", spec := "gridBoxes", apart := false, narrowed := true }
def GridBoxesUptoSaid : Prop := gridBoxesUptoRow.holds Try.pinned (OpenSpec.upto gridBoxesSpec)

/-- 'mapmakerlaw08.GridPoints', WHERE WHAT IT READS IS OF BULK AT MOST 1048576: true; the input reads as it did. -/
def gridPointsUptoRow : OpenClaim := { program := "ytdoafdcfkhdgnaa", sum := "5f8bea407a24f3aaaf8a08cb8bb7c69008377a7262f797dedf98353e319964c2", func := "mapmaker/mapmakerlaw08.GridPoints", spec := "gridPoints", apart := false, narrowed := true }
def GridPointsUptoSaid : Prop := gridPointsUptoRow.holds Try.pinned (OpenSpec.upto gridPointsSpec)

/-- 'mapmakerlaw08.GridMeets', WHERE WHAT IT READS IS OF BULK AT MOST 1048576: true; the input reads as it did. -/
def gridMeetsUptoRow : OpenClaim := { program := "ytdoafdcfkhdgnaa", sum := "5f8bea407a24f3aaaf8a08cb8bb7c69008377a7262f797dedf98353e319964c2", func := "mapmaker/mapmakerlaw08.GridMeets", spec := "gridMeets", apart := false, narrowed := true }
def GridMeetsUptoSaid : Prop := gridMeetsUptoRow.holds Try.pinned (OpenSpec.upto gridMeetsSpec)

/-- 'mapmakerlaw08.GridProjects', WHERE WHAT IT READS IS OF BULK AT MOST 1048576: true; the input reads as it did. -/
def gridProjectsUptoRow : OpenClaim := { program := "ytdoafdcfkhdgnaa", sum := "5f8bea407a24f3aaaf8a08cb8bb7c69008377a7262f797dedf98353e319964c2", func := "mapmaker/mapmakerlaw08.GridProjects", spec := "gridProjects", apart := false, narrowed := true }
def GridProjectsUptoSaid : Prop := gridProjectsUptoRow.holds Try.pinned (OpenSpec.upto gridProjectsSpec)

/-- 'mapmakerlaw08.GridInverse', WHERE WHAT IT READS IS OF BULK AT MOST 1048576: true; the input reads as it did. -/
def gridInverseUptoRow : OpenClaim := { program := "ytdoafdcfkhdgnaa", sum := "5f8bea407a24f3aaaf8a08cb8bb7c69008377a7262f797dedf98353e319964c2", func := "mapmaker/mapmakerlaw08.GridInverse", spec := "gridInverse", apart := false, narrowed := true }
def GridInverseUptoSaid : Prop := gridInverseUptoRow.holds Try.pinned (OpenSpec.upto gridInverseSpec)

end Rows
end Go.Proofs.Ytdoafdcfkhdgnaa
