/-
  No cell of these rows narrows 'for every input' (looked for: loops, veiled, ifaces, maps, wideKeys, modest, calm, conditions, laid).
  DERIVED. THE GIVEN ROWS OF THIS SEAT. 5 by the template 'for every input the law returns true; each argument reads behind the call as it read before'; 0 by the template 'total and deterministic' (their statements: YtffpomipmnlnjaaTotals.lean).
  GIVEN WITH THE SEED: the statements are not yours to turn. If you find one false, say at which input.
  Laid BY PROGRAM, IN A SANDBOX (cutbox-rows.mjs): the forced cells as the released guide's own fill.sh prints them over the translation f01b0a5be3377981… (all of the seat's roots in one cut). By AI agents, Wed Nov 11 2026. No macro, syntax, notation, axiom, sorry.
-/
import Derived.Test.YtffpomipmnlnjaaChecked
import GoSem.Claim
import GoSem.ClaimJoined
import GoSem.ClaimMapViews
import Derived.JoinedTies
import Derived.KernelRfl
namespace Go.Proofs.Ytffpomipmnlnjaa
/- THE CELL 'sum', in the pinned program and in every row, IS THE sha256 OF THE DUMP (.gsa) THAT YtffpomipmnlnjaaProg.lean LOADS. Nothing in Lean hashes anything: it is a label: what it is worth is what the hold of that sum in a sandbox is worth. -/
noncomputable def Try.pinned : Pinned := { name := "ytffpomipmnlnjaa", sum := "f01b0a5be337798174bb715ea9f5618efa2f3bda55d8581fe84afb255fa78313", checked := Try.checked }
namespace Rows
def none {H : Type} : Left H := { results := [], args := [] }

/-- 'mapmakerlaw10.HilbertIndexes': WHATEVER THE INPUT: true; the input reads as it did. -/
def hilbertIndexesSpec : ChangeSpec := { name := "hilbertIndexes", fn := fun _ => fun
  | [d] => { results := [.lit (.bool true)], args := [d] }
  | _ => none }
def hilbertIndexesRow : OpenClaim := { program := "ytffpomipmnlnjaa", sum := "f01b0a5be337798174bb715ea9f5618efa2f3bda55d8581fe84afb255fa78313", func := "mapmaker/mapmakerlaw10.HilbertIndexes", spec := "hilbertIndexes", apart := false }
def HilbertIndexesSaid : Prop := hilbertIndexesRow.holds Try.pinned (OpenSpec.ofChange hilbertIndexesSpec)

/-- ITS FALSE NEIGHBOUR: 'it returns false'. Refute it at one input. -/
def hilbertIndexesWrong : ChangeSpec := { name := "hilbertIndexes", fn := fun _ => fun
  | [d] => { results := [.lit (.bool false)], args := [d] }
  | _ => none }
def HilbertIndexesWrongFalsely : Prop := hilbertIndexesRow.holds Try.pinned (OpenSpec.ofChange hilbertIndexesWrong)

/-- 'mapmakerlaw10.HilbertPoints': WHATEVER THE INPUT: true; the input reads as it did. -/
def hilbertPointsSpec : ChangeSpec := { name := "hilbertPoints", fn := fun _ => fun
  | [d] => { results := [.lit (.bool true)], args := [d] }
  | _ => none }
def hilbertPointsRow : OpenClaim := { program := "ytffpomipmnlnjaa", sum := "f01b0a5be337798174bb715ea9f5618efa2f3bda55d8581fe84afb255fa78313", func := "mapmaker/mapmakerlaw10.HilbertPoints", spec := "hilbertPoints", apart := false }
def HilbertPointsSaid : Prop := hilbertPointsRow.holds Try.pinned (OpenSpec.ofChange hilbertPointsSpec)

/-- ITS FALSE NEIGHBOUR: 'it returns false'. Refute it at one input. -/
def hilbertPointsWrong : ChangeSpec := { name := "hilbertPoints", fn := fun _ => fun
  | [d] => { results := [.lit (.bool false)], args := [d] }
  | _ => none }
def HilbertPointsWrongFalsely : Prop := hilbertPointsRow.holds Try.pinned (OpenSpec.ofChange hilbertPointsWrong)

/-- 'mapmakerlaw10.HilbertBack': WHATEVER THE INPUT: true; the input reads as it did. -/
def hilbertBackSpec : ChangeSpec := { name := "hilbertBack", fn := fun _ => fun
  | [d1, d2] => { results := [.lit (.bool true)], args := [d1, d2] }
  | _ => none }
def hilbertBackRow : OpenClaim := { program := "ytffpomipmnlnjaa", sum := "f01b0a5be337798174bb715ea9f5618efa2f3bda55d8581fe84afb255fa78313", func := "mapmaker/mapmakerlaw10.HilbertBack", spec := "hilbertBack", apart := false }
def HilbertBackSaid : Prop := hilbertBackRow.holds Try.pinned (OpenSpec.ofChange hilbertBackSpec)

/-- ITS FALSE NEIGHBOUR: 'it returns false'. Refute it at one input. -/
def hilbertBackWrong : ChangeSpec := { name := "hilbertBack", fn := fun _ => fun
  | [d1, d2] => { results := [.lit (.bool false)], args := [d1, d2] }
  | _ => none }
def HilbertBackWrongFalsely : Prop := hilbertBackRow.holds Try.pinned (OpenSpec.ofChange hilbertBackWrong)

/-- 'mapmakerlaw10.HilbertSteps': WHATEVER THE INPUT: true; the input reads as it did. -/
def hilbertStepsSpec : ChangeSpec := { name := "hilbertSteps", fn := fun _ => fun
  | [d] => { results := [.lit (.bool true)], args := [d] }
  | _ => none }
def hilbertStepsRow : OpenClaim := { program := "ytffpomipmnlnjaa", sum := "f01b0a5be337798174bb715ea9f5618efa2f3bda55d8581fe84afb255fa78313", func := "mapmaker/mapmakerlaw10.HilbertSteps", spec := "hilbertSteps", apart := false }
def HilbertStepsSaid : Prop := hilbertStepsRow.holds Try.pinned (OpenSpec.ofChange hilbertStepsSpec)

/-- ITS FALSE NEIGHBOUR: 'it returns false'. Refute it at one input. -/
def hilbertStepsWrong : ChangeSpec := { name := "hilbertSteps", fn := fun _ => fun
  | [d] => { results := [.lit (.bool false)], args := [d] }
  | _ => none }
def HilbertStepsWrongFalsely : Prop := hilbertStepsRow.holds Try.pinned (OpenSpec.ofChange hilbertStepsWrong)

/-- 'mapmakerlaw10.HilbertCells': WHATEVER THE INPUT: true; the input reads as it did. -/
def hilbertCellsSpec : ChangeSpec := { name := "hilbertCells", fn := fun _ => fun
  | [d1, d2, d3] => { results := [.lit (.bool true)], args := [d1, d2, d3] }
  | _ => none }
def hilbertCellsRow : OpenClaim := { program := "ytffpomipmnlnjaa", sum := "f01b0a5be337798174bb715ea9f5618efa2f3bda55d8581fe84afb255fa78313", func := "mapmaker/mapmakerlaw10.HilbertCells", spec := "hilbertCells", apart := false }
def HilbertCellsSaid : Prop := hilbertCellsRow.holds Try.pinned (OpenSpec.ofChange hilbertCellsSpec)

/-- ITS FALSE NEIGHBOUR: 'it returns false'. Refute it at one input. -/
def hilbertCellsWrong : ChangeSpec := { name := "hilbertCells", fn := fun _ => fun
  | [d1, d2, d3] => { results := [.lit (.bool false)], args := [d1, d2, d3] }
  | _ => none }
def HilbertCellsWrongFalsely : Prop := hilbertCellsRow.holds Try.pinned (OpenSpec.ofChange hilbertCellsWrong)

/- THE SECOND FORM. 'bulk': how many values and letters a reading holds, each counted each time it is reached (what is shared counts as often as it is met; a slice's spare places count too). A statement '..UptoSaid' is the law's where the arguments, and the package variables that the reading takes, are together of bulk at most 1048576: NARROWER than '..Said'. Prove '..Said' where nothing that the law and all that it calls make is longer than what came in: it says more and counts as full. Else prove '..UptoSaid'. A law counts once. -/
mutual
def uptoBulk {H : Type} : DataW H → Nat
  | .lit (.string bytes) => bytes.length + 1
  | .lit _ => 1
  | .nil => 1
  | .ptr d => uptoBulk d + 1
  | .slice elems spare => uptoBulkAll elems + uptoBulkAll spare + 1
  | .agg parts => uptoBulkAll parts + 1
  | .iface _ d => uptoBulk d + 1
  | .map entries => uptoBulkEntries entries + 1
  | .held _ => 1
def uptoBulkAll {H : Type} : List (DataW H) → Nat
  | [] => 0
  | d :: r => uptoBulk d + uptoBulkAll r
def uptoBulkEntries {H : Type} : List (Lit × DataW H) → Nat
  | [] => 0
  | x :: r => uptoBulkEntry x + uptoBulkEntries r
def uptoBulkEntry {H : Type} : Lit × DataW H → Nat
  | (.string bytes, d) => bytes.length + uptoBulk d + 1
  | (_, d) => uptoBulk d + 1
 end
def uptoSmall : (H : Type) → List (DataW H) → Bool := fun _ ds => decide (uptoBulkAll ds ≤ 1048576)
def OpenSpec.upto (s : _root_.Go.ChangeSpec) : _root_.Go.OpenSpec := { _root_.Go.OpenSpec.ofChange s with cond := some uptoSmall }

/-- 'mapmakerlaw10.HilbertIndexes', WHERE WHAT IT READS IS OF BULK AT MOST 1048576: true; the input reads as it did. -/
def hilbertIndexesUptoRow : OpenClaim := { program := "ytffpomipmnlnjaa", sum := "f01b0a5be337798174bb715ea9f5618efa2f3bda55d8581fe84afb255fa78313", func := "mapmaker/mapmakerlaw10.HilbertIndexes", spec := "hilbertIndexes", apart := false, narrowed := true }
def HilbertIndexesUptoSaid : Prop := hilbertIndexesUptoRow.holds Try.pinned (OpenSpec.upto hilbertIndexesSpec)

/-- 'mapmakerlaw10.HilbertPoints', WHERE WHAT IT READS IS OF BULK AT MOST 1048576: true; the input reads as it did. -/
def hilbertPointsUptoRow : OpenClaim := { program := "ytffpomipmnlnjaa", sum := "f01b0a5be337798174bb715ea9f5618efa2f3bda55d8581fe84afb255fa78313", func := "mapmaker/mapmakerlaw10.HilbertPoints", spec := "hilbertPoints", apart := false, narrowed := true }
def HilbertPointsUptoSaid : Prop := hilbertPointsUptoRow.holds Try.pinned (OpenSpec.upto hilbertPointsSpec)

/-- 'mapmakerlaw10.HilbertBack', WHERE WHAT IT READS IS OF BULK AT MOST 1048576: true; the input reads as it did. -/
def hilbertBackUptoRow : OpenClaim := { program := "ytffpomipmnlnjaa", sum := "f01b0a5be337798174bb715ea9f5618efa2f3bda55d8581fe84afb255fa78313", func := "mapmaker/mapmakerlaw10.HilbertBack", spec := "hilbertBack", apart := false, narrowed := true }
def HilbertBackUptoSaid : Prop := hilbertBackUptoRow.holds Try.pinned (OpenSpec.upto hilbertBackSpec)

/-- 'mapmakerlaw10.HilbertSteps', WHERE WHAT IT READS IS OF BULK AT MOST 1048576: true; the input reads as it did. -/
def hilbertStepsUptoRow : OpenClaim := { program := "ytffpomipmnlnjaa", sum := "f01b0a5be337798174bb715ea9f5618efa2f3bda55d8581fe84afb255fa78313", func := "mapmaker/mapmakerlaw10.HilbertSteps", spec := "hilbertSteps", apart := false, narrowed := true }
def HilbertStepsUptoSaid : Prop := hilbertStepsUptoRow.holds Try.pinned (OpenSpec.upto hilbertStepsSpec)

/-- 'mapmakerlaw10.HilbertCells', WHERE WHAT IT READS IS OF BULK AT MOST 1048576: true; the input reads as it did. -/
def hilbertCellsUptoRow : OpenClaim := { program := "ytffpomipmnlnjaa", sum := "f01b0a5be337798174bb715ea9f5618efa2f3bda55d8581fe84afb255fa78313", func := "mapmaker/mapmakerlaw10.HilbertCells", spec := "hilbertCells", apart := false, narrowed := true }
def HilbertCellsUptoSaid : Prop := hilbertCellsUptoRow.holds Try.pinned (OpenSpec.upto hilbertCellsSpec)

end Rows
end Go.Proofs.Ytffpomipmnlnjaa
