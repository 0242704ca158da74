/-
  No cell of these rows narrows 'for every input' (looked for: loops, veiled, ifaces, maps, wideKeys, modest, calm, conditions, laid).
  DERIVED. THE GIVEN ROWS OF THIS SEAT. 4 by the template 'for every input the law returns true; each argument reads behind the call as it read before'; 0 by the template 'total and deterministic' (their statements: YtpjgognanfgpiaaTotals.lean).
  GIVEN WITH THE SEED: the statements are not yours to turn. If you find one false, say at which input.
  Laid BY PROGRAM, IN A SANDBOX (cutbox-rows.mjs): the forced cells as the released guide's own fill.sh prints them over the translation 0392d6a0af49f678… (all of the seat's roots in one cut). By AI agents, Wed Nov 11 2026. No macro, syntax, notation, axiom, sorry.
-/
import Derived.Test.YtpjgognanfgpiaaChecked
import GoSem.Claim
import GoSem.ClaimJoined
import GoSem.ClaimMapViews
import Derived.JoinedTies
import Derived.KernelRfl
namespace Go.Proofs.Ytpjgognanfgpiaa
/- THE CELL 'sum', in the pinned program and in every row, IS THE sha256 OF THE DUMP (.gsa) THAT YtpjgognanfgpiaaProg.lean LOADS. Nothing in Lean hashes anything: it is a label: what it is worth is what the hold of that sum in a sandbox is worth. -/
noncomputable def Try.pinned : Pinned := { name := "ytpjgognanfgpiaa", sum := "0392d6a0af49f6784f9b199275943ecfb35172c001a7e4241e94a46dc8a06509", checked := Try.checked }
namespace Rows
def none {H : Type} : Left H := { results := [], args := [] }

/-- 'mapmakerlaw03.NamesPlays': WHATEVER THE INPUT: true; the input reads as it did. -/
def namesPlaysSpec : ChangeSpec := { name := "namesPlays", fn := fun _ => fun
  | [d] => { results := [.lit (.bool true)], args := [d] }
  | _ => none }
def namesPlaysRow : OpenClaim := { program := "ytpjgognanfgpiaa", sum := "0392d6a0af49f6784f9b199275943ecfb35172c001a7e4241e94a46dc8a06509", func := "mapmaker/mapmakerlaw03.NamesPlays", spec := "namesPlays", apart := false }
def NamesPlaysSaid : Prop := namesPlaysRow.holds Try.pinned (OpenSpec.ofChange namesPlaysSpec)

/-- ITS FALSE NEIGHBOUR: 'it returns false'. Refute it at one input. -/
def namesPlaysWrong : ChangeSpec := { name := "namesPlays", fn := fun _ => fun
  | [d] => { results := [.lit (.bool false)], args := [d] }
  | _ => none }
def NamesPlaysWrongFalsely : Prop := namesPlaysRow.holds Try.pinned (OpenSpec.ofChange namesPlaysWrong)

/-- 'mapmakerlaw03.NamesNil': WHATEVER THE INPUT: true; the input reads as it did. -/
def namesNilSpec : ChangeSpec := { name := "namesNil", fn := fun _ => fun
  | [d1, d2] => { results := [.lit (.bool true)], args := [d1, d2] }
  | _ => none }
def namesNilRow : OpenClaim := { program := "ytpjgognanfgpiaa", sum := "0392d6a0af49f6784f9b199275943ecfb35172c001a7e4241e94a46dc8a06509", func := "mapmaker/mapmakerlaw03.NamesNil", spec := "namesNil", apart := false }
def NamesNilSaid : Prop := namesNilRow.holds Try.pinned (OpenSpec.ofChange namesNilSpec)

/-- ITS FALSE NEIGHBOUR: 'it returns false'. Refute it at one input. -/
def namesNilWrong : ChangeSpec := { name := "namesNil", fn := fun _ => fun
  | [d1, d2] => { results := [.lit (.bool false)], args := [d1, d2] }
  | _ => none }
def NamesNilWrongFalsely : Prop := namesNilRow.holds Try.pinned (OpenSpec.ofChange namesNilWrong)

/-- 'mapmakerlaw03.NamesInverts': WHATEVER THE INPUT: true; the input reads as it did. -/
def namesInvertsSpec : ChangeSpec := { name := "namesInverts", fn := fun _ => fun
  | [d] => { results := [.lit (.bool true)], args := [d] }
  | _ => none }
def namesInvertsRow : OpenClaim := { program := "ytpjgognanfgpiaa", sum := "0392d6a0af49f6784f9b199275943ecfb35172c001a7e4241e94a46dc8a06509", func := "mapmaker/mapmakerlaw03.NamesInverts", spec := "namesInverts", apart := false }
def NamesInvertsSaid : Prop := namesInvertsRow.holds Try.pinned (OpenSpec.ofChange namesInvertsSpec)

/-- ITS FALSE NEIGHBOUR: 'it returns false'. Refute it at one input. -/
def namesInvertsWrong : ChangeSpec := { name := "namesInverts", fn := fun _ => fun
  | [d] => { results := [.lit (.bool false)], args := [d] }
  | _ => none }
def NamesInvertsWrongFalsely : Prop := namesInvertsRow.holds Try.pinned (OpenSpec.ofChange namesInvertsWrong)

/-- 'mapmakerlaw03.NamesOf': WHATEVER THE INPUT: true; the input reads as it did. -/
def namesOfSpec : ChangeSpec := { name := "namesOf", fn := fun _ => fun
  | [d1, d2, d3] => { results := [.lit (.bool true)], args := [d1, d2, d3] }
  | _ => none }
def namesOfRow : OpenClaim := { program := "ytpjgognanfgpiaa", sum := "0392d6a0af49f6784f9b199275943ecfb35172c001a7e4241e94a46dc8a06509", func := "mapmaker/mapmakerlaw03.NamesOf", spec := "namesOf", apart := false }
def NamesOfSaid : Prop := namesOfRow.holds Try.pinned (OpenSpec.ofChange namesOfSpec)

/-- ITS FALSE NEIGHBOUR: 'it returns false'. Refute it at one input. -/
def namesOfWrong : ChangeSpec := { name := "namesOf", fn := fun _ => fun
  | [d1, d2, d3] => { results := [.lit (.bool false)], args := [d1, d2, d3] }
  | _ => none }
def NamesOfWrongFalsely : Prop := namesOfRow.holds Try.pinned (OpenSpec.ofChange namesOfWrong)

/- THE SECOND FORM. 'bulk': how many values and letters a reading holds, each counted each time it is reached (what is shared counts as often as it is met; a slice's spare places count too). A statement '..UptoSaid' is the law's where the arguments, and the package variables that the reading takes, are together of bulk at most 1048576: NARROWER than '..Said'. Prove '..Said' where nothing that the law and all that it calls make is longer than what came in: it says more and counts as full. Else prove '..UptoSaid'. A law counts once. -/
mutual
def uptoBulk {H : Type} : DataW H → Nat
  | .lit (.string bytes) => bytes.length + 1
  | .lit _ => 1
  | .nil => 1
  | .ptr d => uptoBulk d + 1
  | .slice elems spare => uptoBulkAll elems + uptoBulkAll spare + 1
  | .agg parts => uptoBulkAll parts + 1
  | .iface _ d => uptoBulk d + 1
  | .map entries => uptoBulkEntries entries + 1
  | .held _ => 1
def uptoBulkAll {H : Type} : List (DataW H) → Nat
  | [] => 0
  | d :: r => uptoBulk d + uptoBulkAll r
def uptoBulkEntries {H : Type} : List (Lit × DataW H) → Nat
  | [] => 0
  | x :: r => uptoBulkEntry x + uptoBulkEntries r
def uptoBulkEntry {H : Type} : Lit × DataW H → Nat
  | (.string bytes, d) => bytes.length + uptoBulk d + 1
  | (_, d) => uptoBulk d + 1
 end
def uptoSmall : (H : Type) → List (DataW H) → Bool := fun _ ds => decide (uptoBulkAll ds ≤ 1048576)
def OpenSpec.upto (s : _root_.Go.ChangeSpec) : _root_.Go.OpenSpec := { _root_.Go.OpenSpec.ofChange s with cond := some uptoSmall }

/-- 'mapmakerlaw03.NamesPlays', WHERE WHAT IT READS IS OF BULK AT MOST 1048576: true; the input reads as it did. -/
def namesPlaysUptoRow : OpenClaim := { program := "ytpjgognanfgpiaa", sum := "0392d6a0af49f6784f9b199275943ecfb35172c001a7e4241e94a46dc8a06509", func := "mapmaker/mapmakerlaw03.NamesPlays", spec := "namesPlays", apart := false, narrowed := true }
def NamesPlaysUptoSaid : Prop := namesPlaysUptoRow.holds Try.pinned (OpenSpec.upto namesPlaysSpec)

/-- 'mapmakerlaw03.NamesNil', WHERE WHAT IT READS IS OF BULK AT MOST 1048576: true; the input reads as it did. -/
def namesNilUptoRow : OpenClaim := { program := "ytpjgognanfgpiaa", sum := "0392d6a0af49f6784f9b199275943ecfb35172c001a7e4241e94a46dc8a06509", func := "mapmaker/mapmakerlaw03.NamesNil", spec := "namesNil", apart := false, narrowed := true }
def NamesNilUptoSaid : Prop := namesNilUptoRow.holds Try.pinned (OpenSpec.upto namesNilSpec)

/-- 'mapmakerlaw03.NamesInverts', WHERE WHAT IT READS IS OF BULK AT MOST 1048576: true; the input reads as it did. -/
def namesInvertsUptoRow : OpenClaim := { program := "ytpjgognanfgpiaa", sum := "0392d6a0af49f6784f9b199275943ecfb35172c001a7e4241e94a46dc8a06509", func := "mapmaker/mapmakerlaw03.NamesInverts", spec := "namesInverts", apart := false, narrowed := true }
def NamesInvertsUptoSaid : Prop := namesInvertsUptoRow.holds Try.pinned (OpenSpec.upto namesInvertsSpec)

/-- 'mapmakerlaw03.NamesOf', WHERE WHAT IT READS IS OF BULK AT MOST 1048576: true; the input reads as it did. -/
def namesOfUptoRow : OpenClaim := { program := "ytpjgognanfgpiaa", sum := "0392d6a0af49f6784f9b199275943ecfb35172c001a7e4241e94a46dc8a06509", func := "mapmaker/mapmakerlaw03.NamesOf", spec := "namesOf", apart := false, narrowed := true }
def NamesOfUptoSaid : Prop := namesOfUptoRow.holds Try.pinned (OpenSpec.upto namesOfSpec)

end Rows
end Go.Proofs.Ytpjgognanfgpiaa
