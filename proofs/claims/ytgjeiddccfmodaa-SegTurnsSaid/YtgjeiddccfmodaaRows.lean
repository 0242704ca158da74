/-
  No cell of these rows narrows 'for every input' (looked for: loops, veiled, ifaces, maps, wideKeys, modest, calm, conditions, laid).
  DERIVED. THE GIVEN ROWS OF THIS SEAT. 6 by the template 'for every input the law returns true; each argument reads behind the call as it read before'; 0 by the template 'total and deterministic' (their statements: YtgjeiddccfmodaaTotals.lean).
  GIVEN WITH THE SEED: the statements are not yours to turn. If you find one false, say at which input.
  Laid BY PROGRAM, IN A SANDBOX (cutbox-rows.mjs): the forced cells as the released guide's own fill.sh prints them over the translation bb972e20a4cdb5d1… (all of the seat's roots in one cut). By AI agents, Wed Nov 11 2026. No macro, syntax, notation, axiom, sorry.
-/
import Derived.Test.YtgjeiddccfmodaaChecked
import GoSem.Claim
import GoSem.ClaimJoined
import GoSem.ClaimMapViews
import Derived.JoinedTies
import Derived.KernelRfl
namespace Go.Proofs.Ytgjeiddccfmodaa
/- THE CELL 'sum', in the pinned program and in every row, IS THE sha256 OF THE DUMP (.gsa) THAT YtgjeiddccfmodaaProg.lean LOADS. Nothing in Lean hashes anything: it is a label: what it is worth is what the hold of that sum in a sandbox is worth. -/
noncomputable def Try.pinned : Pinned := { name := "ytgjeiddccfmodaa", sum := "bb972e20a4cdb5d1f6ea95117435c56e22d788561106ca3732dc7590d6ea995d", checked := Try.checked }
namespace Rows
def none {H : Type} : Left H := { results := [], args := [] }

/-- 'mapmakerlaw09.SegRelates': WHATEVER THE INPUT: true; the input reads as it did. -/
def segRelatesSpec : ChangeSpec := { name := "segRelates", fn := fun _ => fun
  | [d1, d2] => { results := [.lit (.bool true)], args := [d1, d2] }
  | _ => none }
def segRelatesRow : OpenClaim := { program := "ytgjeiddccfmodaa", sum := "bb972e20a4cdb5d1f6ea95117435c56e22d788561106ca3732dc7590d6ea995d", func := "mapmaker/mapmakerlaw09.SegRelates", spec := "segRelates", apart := false }
def SegRelatesSaid : Prop := segRelatesRow.holds Try.pinned (OpenSpec.ofChange segRelatesSpec)

/-- ITS FALSE NEIGHBOUR: 'it returns false'. Refute it at one input. -/
def segRelatesWrong : ChangeSpec := { name := "segRelates", fn := fun _ => fun
  | [d1, d2] => { results := [.lit (.bool false)], args := [d1, d2] }
  | _ => none }
def SegRelatesWrongFalsely : Prop := segRelatesRow.holds Try.pinned (OpenSpec.ofChange segRelatesWrong)

/-- 'mapmakerlaw09.SegFars': WHATEVER THE INPUT: true; the input reads as it did. -/
def segFarsSpec : ChangeSpec := { name := "segFars", fn := fun _ => fun
  | [d1, d2, d3, d4, d5, d6, d7] => { results := [.lit (.bool true)], args := [d1, d2, d3, d4, d5, d6, d7] }
  | _ => none }
def segFarsRow : OpenClaim := { program := "ytgjeiddccfmodaa", sum := "bb972e20a4cdb5d1f6ea95117435c56e22d788561106ca3732dc7590d6ea995d", func := "mapmaker/mapmakerlaw09.SegFars", spec := "segFars", apart := false }
def SegFarsSaid : Prop := segFarsRow.holds Try.pinned (OpenSpec.ofChange segFarsSpec)

/-- ITS FALSE NEIGHBOUR: 'it returns false'. Refute it at one input. -/
def segFarsWrong : ChangeSpec := { name := "segFars", fn := fun _ => fun
  | [d1, d2, d3, d4, d5, d6, d7] => { results := [.lit (.bool false)], args := [d1, d2, d3, d4, d5, d6, d7] }
  | _ => none }
def SegFarsWrongFalsely : Prop := segFarsRow.holds Try.pinned (OpenSpec.ofChange segFarsWrong)

/-- 'mapmakerlaw09.SegSymmetry': WHATEVER THE INPUT: true; the input reads as it did. -/
def segSymmetrySpec : ChangeSpec := { name := "segSymmetry", fn := fun _ => fun
  | [d1, d2] => { results := [.lit (.bool true)], args := [d1, d2] }
  | _ => none }
def segSymmetryRow : OpenClaim := { program := "ytgjeiddccfmodaa", sum := "bb972e20a4cdb5d1f6ea95117435c56e22d788561106ca3732dc7590d6ea995d", func := "mapmaker/mapmakerlaw09.SegSymmetry", spec := "segSymmetry", apart := false }
def SegSymmetrySaid : Prop := segSymmetryRow.holds Try.pinned (OpenSpec.ofChange segSymmetrySpec)

/-- ITS FALSE NEIGHBOUR: 'it returns false'. Refute it at one input. -/
def segSymmetryWrong : ChangeSpec := { name := "segSymmetry", fn := fun _ => fun
  | [d1, d2] => { results := [.lit (.bool false)], args := [d1, d2] }
  | _ => none }
def SegSymmetryWrongFalsely : Prop := segSymmetryRow.holds Try.pinned (OpenSpec.ofChange segSymmetryWrong)

/-- 'mapmakerlaw09.SegCycles': WHATEVER THE INPUT: true; the input reads as it did. -/
def segCyclesSpec : ChangeSpec := { name := "segCycles", fn := fun _ => fun
  | [d1, d2, d3] => { results := [.lit (.bool true)], args := [d1, d2, d3] }
  | _ => none }
def segCyclesRow : OpenClaim := { program := "ytgjeiddccfmodaa", sum := "bb972e20a4cdb5d1f6ea95117435c56e22d788561106ca3732dc7590d6ea995d", func := "mapmaker/mapmakerlaw09.SegCycles", spec := "segCycles", apart := false }
def SegCyclesSaid : Prop := segCyclesRow.holds Try.pinned (OpenSpec.ofChange segCyclesSpec)

/-- ITS FALSE NEIGHBOUR: 'it returns false'. Refute it at one input. -/
def segCyclesWrong : ChangeSpec := { name := "segCycles", fn := fun _ => fun
  | [d1, d2, d3] => { results := [.lit (.bool false)], args := [d1, d2, d3] }
  | _ => none }
def SegCyclesWrongFalsely : Prop := segCyclesRow.holds Try.pinned (OpenSpec.ofChange segCyclesWrong)

/-- 'mapmakerlaw09.SegOrders': WHATEVER THE INPUT: true; the input reads as it did. -/
def segOrdersSpec : ChangeSpec := { name := "segOrders", fn := fun _ => fun
  | [d1, d2, d3, d4, d5, d6, d7] => { results := [.lit (.bool true)], args := [d1, d2, d3, d4, d5, d6, d7] }
  | _ => none }
def segOrdersRow : OpenClaim := { program := "ytgjeiddccfmodaa", sum := "bb972e20a4cdb5d1f6ea95117435c56e22d788561106ca3732dc7590d6ea995d", func := "mapmaker/mapmakerlaw09.SegOrders", spec := "segOrders", apart := false }
def SegOrdersSaid : Prop := segOrdersRow.holds Try.pinned (OpenSpec.ofChange segOrdersSpec)

/-- ITS FALSE NEIGHBOUR: 'it returns false'. Refute it at one input. -/
def segOrdersWrong : ChangeSpec := { name := "segOrders", fn := fun _ => fun
  | [d1, d2, d3, d4, d5, d6, d7] => { results := [.lit (.bool false)], args := [d1, d2, d3, d4, d5, d6, d7] }
  | _ => none }
def SegOrdersWrongFalsely : Prop := segOrdersRow.holds Try.pinned (OpenSpec.ofChange segOrdersWrong)

/-- 'mapmakerlaw09.SegTurns': WHATEVER THE INPUT: true; the input reads as it did. -/
def segTurnsSpec : ChangeSpec := { name := "segTurns", fn := fun _ => fun
  | [d1, d2, d3, d4] => { results := [.lit (.bool true)], args := [d1, d2, d3, d4] }
  | _ => none }
def segTurnsRow : OpenClaim := { program := "ytgjeiddccfmodaa", sum := "bb972e20a4cdb5d1f6ea95117435c56e22d788561106ca3732dc7590d6ea995d", func := "mapmaker/mapmakerlaw09.SegTurns", spec := "segTurns", apart := false }
def SegTurnsSaid : Prop := segTurnsRow.holds Try.pinned (OpenSpec.ofChange segTurnsSpec)

/-- ITS FALSE NEIGHBOUR: 'it returns false'. Refute it at one input. -/
def segTurnsWrong : ChangeSpec := { name := "segTurns", fn := fun _ => fun
  | [d1, d2, d3, d4] => { results := [.lit (.bool false)], args := [d1, d2, d3, d4] }
  | _ => none }
def SegTurnsWrongFalsely : Prop := segTurnsRow.holds Try.pinned (OpenSpec.ofChange segTurnsWrong)

/- THE SECOND FORM. 'bulk': how many values and letters a reading holds, each counted each time it is reached (what is shared counts as often as it is met; a slice's spare places count too). A statement '..UptoSaid' is the law's where the arguments, and the package variables that the reading takes, are together of bulk at most 1048576: NARROWER than '..Said'. Prove '..Said' where nothing that the law and all that it calls make is longer than what came in: it says more and counts as full. Else prove '..UptoSaid'. A law counts once. -/
mutual
def uptoBulk {H : Type} : DataW H → Nat
  | .lit (.string bytes) => bytes.length + 1
  | .lit _ => 1
  | .nil => 1
  | .ptr d => uptoBulk d + 1
  | .slice elems spare => uptoBulkAll elems + uptoBulkAll spare + 1
  | .agg parts => uptoBulkAll parts + 1
  | .iface _ d => uptoBulk d + 1
  | .map entries => uptoBulkEntries entries + 1
  | .held _ => 1
def uptoBulkAll {H : Type} : List (DataW H) → Nat
  | [] => 0
  | d :: r => uptoBulk d + uptoBulkAll r
def uptoBulkEntries {H : Type} : List (Lit × DataW H) → Nat
  | [] => 0
  | x :: r => uptoBulkEntry x + uptoBulkEntries r
def uptoBulkEntry {H : Type} : Lit × DataW H → Nat
  | (.string bytes, d) => bytes.length + uptoBulk d + 1
  | (_, d) => uptoBulk d + 1
 end
def uptoSmall : (H : Type) → List (DataW H) → Bool := fun _ ds => decide (uptoBulkAll ds ≤ 1048576)
def OpenSpec.upto (s : _root_.Go.ChangeSpec) : _root_.Go.OpenSpec := { _root_.Go.OpenSpec.ofChange s with cond := some uptoSmall }

/-- 'mapmakerlaw09.SegRelates', WHERE WHAT IT READS IS OF BULK AT MOST 1048576: true; the input reads as it did. -/
def segRelatesUptoRow : OpenClaim := { program := "ytgjeiddccfmodaa", sum := "bb972e20a4cdb5d1f6ea95117435c56e22d788561106ca3732dc7590d6ea995d", func := "mapmaker/mapmakerlaw09.SegRelates", spec := "segRelates", apart := false, narrowed := true }
def SegRelatesUptoSaid : Prop := segRelatesUptoRow.holds Try.pinned (OpenSpec.upto segRelatesSpec)

/-- 'mapmakerlaw09.SegFars', WHERE WHAT IT READS IS OF BULK AT MOST 1048576: true; the input reads as it did. -/
def segFarsUptoRow : OpenClaim := { program := "ytgjeiddccfmodaa", sum := "bb972e20a4cdb5d1f6ea95117435c56e22d788561106ca3732dc7590d6ea995d", func := "mapmaker/mapmakerlaw09.SegFars", spec := "segFars", apart := false, narrowed := true }
def SegFarsUptoSaid : Prop := segFarsUptoRow.holds Try.pinned (OpenSpec.upto segFarsSpec)

/-- 'mapmakerlaw09.SegSymmetry', WHERE WHAT IT READS IS OF BULK AT MOST 1048576: true; the input reads as it did. -/
def segSymmetryUptoRow : OpenClaim := { program := "ytgjeiddccfmodaa", sum := "bb972e20a4cdb5d1f6ea95117435c56e22d788561106ca3732dc7590d6ea995d", func := "mapmaker/mapmakerlaw09.SegSymmetry", spec := "segSymmetry", apart := false, narrowed := true }
def SegSymmetryUptoSaid : Prop := segSymmetryUptoRow.holds Try.pinned (OpenSpec.upto segSymmetrySpec)

/-- 'mapmakerlaw09.SegCycles', WHERE WHAT IT READS IS OF BULK AT MOST 1048576: true; the input reads as it did. -/
def segCyclesUptoRow : OpenClaim := { program := "ytgjeiddccfmodaa", sum := "bb972e20a4cdb5d1f6ea95117435c56e22d788561106ca3732dc7590d6ea995d", func := "mapmaker/mapmakerlaw09.SegCycles", spec := "segCycles", apart := false, narrowed := true }
def SegCyclesUptoSaid : Prop := segCyclesUptoRow.holds Try.pinned (OpenSpec.upto segCyclesSpec)

/-- 'mapmakerlaw09.SegOrders', WHERE WHAT IT READS IS OF BULK AT MOST 1048576: true; the input reads as it did. -/
def segOrdersUptoRow : OpenClaim := { program := "ytgjeiddccfmodaa", sum := "bb972e20a4cdb5d1f6ea95117435c56e22d788561106ca3732dc7590d6ea995d", func := "mapmaker/mapmakerlaw09.SegOrders", spec := "segOrders", apart := false, narrowed := true }
def SegOrdersUptoSaid : Prop := segOrdersUptoRow.holds Try.pinned (OpenSpec.upto segOrdersSpec)

/-- 'mapmakerlaw09.SegTurns', WHERE WHAT IT READS IS OF BULK AT MOST 1048576: true; the input reads as it did. -/
def segTurnsUptoRow : OpenClaim := { program := "ytgjeiddccfmodaa", sum := "bb972e20a4cdb5d1f6ea95117435c56e22d788561106ca3732dc7590d6ea995d", func := "mapmaker/mapmakerlaw09.SegTurns", spec := "segTurns", apart := false, narrowed := true }
def SegTurnsUptoSaid : Prop := segTurnsUptoRow.holds Try.pinned (OpenSpec.upto segTurnsSpec)

end Rows
end Go.Proofs.Ytgjeiddccfmodaa
