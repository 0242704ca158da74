/-
  No cell of these rows narrows 'for every input' (looked for: loops, veiled, ifaces, maps, wideKeys, modest, calm, conditions, laid).
  DERIVED. THE GIVEN ROWS OF THIS SEAT. 6 by the template 'for every input the law returns true; each argument reads behind the call as it read before'; 0 by the template 'total and deterministic' (their statements: YtijjgdgbeigljaaTotals.lean).
  GIVEN WITH THE SEED: the statements are not yours to turn. If you find one false, say at which input.
  Laid BY PROGRAM, IN A SANDBOX (cutbox-rows.mjs): the forced cells as the released guide's own fill.sh prints them over the translation b6cc00cb904ba2c6… (all of the seat's roots in one cut). By AI agents, Wed Nov 11 2026. No macro, syntax, notation, axiom, sorry.
-/
import Derived.Test.YtijjgdgbeigljaaChecked
import GoSem.Claim
import GoSem.ClaimJoined
import GoSem.ClaimMapViews
import Derived.JoinedTies
import Derived.KernelRfl
namespace Go.Proofs.Ytijjgdgbeigljaa
/- THE CELL 'sum', in the pinned program and in every row, IS THE sha256 OF THE DUMP (.gsa) THAT YtijjgdgbeigljaaProg.lean LOADS. Nothing in Lean hashes anything: it is a label: what it is worth is what the hold of that sum in a sandbox is worth. -/
noncomputable def Try.pinned : Pinned := { name := "ytijjgdgbeigljaa", sum := "b6cc00cb904ba2c66368dcdf4f8811e8c39f6b1806367b9d5e4a7acf3b10f138", checked := Try.checked }
namespace Rows
def none {H : Type} : Left H := { results := [], args := [] }

/-- 'mapmakerlaw07.ScheduleChecks': WHATEVER THE INPUT: true; the input reads as it did. -/
def scheduleChecksSpec : ChangeSpec := { name := "scheduleChecks", fn := fun _ => fun
  | [d] => { results := [.lit (.bool true)], args := [d] }
  | _ => none }
def scheduleChecksRow : OpenClaim := { program := "ytijjgdgbeigljaa", sum := "b6cc00cb904ba2c66368dcdf4f8811e8c39f6b1806367b9d5e4a7acf3b10f138", func := "mapmaker/mapmakerlaw07.ScheduleChecks", spec := "scheduleChecks", apart := false }
def ScheduleChecksSaid : Prop := scheduleChecksRow.holds Try.pinned (OpenSpec.ofChange scheduleChecksSpec)

/-- ITS FALSE NEIGHBOUR: 'it returns false'. Refute it at one input. -/
def scheduleChecksWrong : ChangeSpec := { name := "scheduleChecks", fn := fun _ => fun
  | [d] => { results := [.lit (.bool false)], args := [d] }
  | _ => none }
def ScheduleChecksWrongFalsely : Prop := scheduleChecksRow.holds Try.pinned (OpenSpec.ofChange scheduleChecksWrong)

/-- 'mapmakerlaw07.ScheduleOpens': WHATEVER THE INPUT: true; the input reads as it did. -/
def scheduleOpensSpec : ChangeSpec := { name := "scheduleOpens", fn := fun _ => fun
  | [d1, d2] => { results := [.lit (.bool true)], args := [d1, d2] }
  | _ => none }
def scheduleOpensRow : OpenClaim := { program := "ytijjgdgbeigljaa", sum := "b6cc00cb904ba2c66368dcdf4f8811e8c39f6b1806367b9d5e4a7acf3b10f138", func := "mapmaker/mapmakerlaw07.ScheduleOpens", spec := "scheduleOpens", apart := false }
def ScheduleOpensSaid : Prop := scheduleOpensRow.holds Try.pinned (OpenSpec.ofChange scheduleOpensSpec)

/-- ITS FALSE NEIGHBOUR: 'it returns false'. Refute it at one input. -/
def scheduleOpensWrong : ChangeSpec := { name := "scheduleOpens", fn := fun _ => fun
  | [d1, d2] => { results := [.lit (.bool false)], args := [d1, d2] }
  | _ => none }
def ScheduleOpensWrongFalsely : Prop := scheduleOpensRow.holds Try.pinned (OpenSpec.ofChange scheduleOpensWrong)

/-- 'mapmakerlaw07.ScheduleNexts': WHATEVER THE INPUT: true; the input reads as it did. -/
def scheduleNextsSpec : ChangeSpec := { name := "scheduleNexts", fn := fun _ => fun
  | [d1, d2] => { results := [.lit (.bool true)], args := [d1, d2] }
  | _ => none }
def scheduleNextsRow : OpenClaim := { program := "ytijjgdgbeigljaa", sum := "b6cc00cb904ba2c66368dcdf4f8811e8c39f6b1806367b9d5e4a7acf3b10f138", func := "mapmaker/mapmakerlaw07.ScheduleNexts", spec := "scheduleNexts", apart := false }
def ScheduleNextsSaid : Prop := scheduleNextsRow.holds Try.pinned (OpenSpec.ofChange scheduleNextsSpec)

/-- ITS FALSE NEIGHBOUR: 'it returns false'. Refute it at one input. -/
def scheduleNextsWrong : ChangeSpec := { name := "scheduleNexts", fn := fun _ => fun
  | [d1, d2] => { results := [.lit (.bool false)], args := [d1, d2] }
  | _ => none }
def ScheduleNextsWrongFalsely : Prop := scheduleNextsRow.holds Try.pinned (OpenSpec.ofChange scheduleNextsWrong)

/-- 'mapmakerlaw07.ScheduleFrees': WHATEVER THE INPUT: true; the input reads as it did. -/
def scheduleFreesSpec : ChangeSpec := { name := "scheduleFrees", fn := fun _ => fun
  | [d] => { results := [.lit (.bool true)], args := [d] }
  | _ => none }
def scheduleFreesRow : OpenClaim := { program := "ytijjgdgbeigljaa", sum := "b6cc00cb904ba2c66368dcdf4f8811e8c39f6b1806367b9d5e4a7acf3b10f138", func := "mapmaker/mapmakerlaw07.ScheduleFrees", spec := "scheduleFrees", apart := false }
def ScheduleFreesSaid : Prop := scheduleFreesRow.holds Try.pinned (OpenSpec.ofChange scheduleFreesSpec)

/-- ITS FALSE NEIGHBOUR: 'it returns false'. Refute it at one input. -/
def scheduleFreesWrong : ChangeSpec := { name := "scheduleFrees", fn := fun _ => fun
  | [d] => { results := [.lit (.bool false)], args := [d] }
  | _ => none }
def ScheduleFreesWrongFalsely : Prop := scheduleFreesRow.holds Try.pinned (OpenSpec.ofChange scheduleFreesWrong)

/-- 'mapmakerlaw07.ScheduleMoves': WHATEVER THE INPUT: true; the input reads as it did. -/
def scheduleMovesSpec : ChangeSpec := { name := "scheduleMoves", fn := fun _ => fun
  | [d1, d2, d3] => { results := [.lit (.bool true)], args := [d1, d2, d3] }
  | _ => none }
def scheduleMovesRow : OpenClaim := { program := "ytijjgdgbeigljaa", sum := "b6cc00cb904ba2c66368dcdf4f8811e8c39f6b1806367b9d5e4a7acf3b10f138", func := "mapmaker/mapmakerlaw07.ScheduleMoves", spec := "scheduleMoves", apart := false }
def ScheduleMovesSaid : Prop := scheduleMovesRow.holds Try.pinned (OpenSpec.ofChange scheduleMovesSpec)

/-- ITS FALSE NEIGHBOUR: 'it returns false'. Refute it at one input. -/
def scheduleMovesWrong : ChangeSpec := { name := "scheduleMoves", fn := fun _ => fun
  | [d1, d2, d3] => { results := [.lit (.bool false)], args := [d1, d2, d3] }
  | _ => none }
def ScheduleMovesWrongFalsely : Prop := scheduleMovesRow.holds Try.pinned (OpenSpec.ofChange scheduleMovesWrong)

/-- 'mapmakerlaw07.ScheduleRepeats': WHATEVER THE INPUT: true; the input reads as it did. -/
def scheduleRepeatsSpec : ChangeSpec := { name := "scheduleRepeats", fn := fun _ => fun
  | [d1, d2, d3] => { results := [.lit (.bool true)], args := [d1, d2, d3] }
  | _ => none }
def scheduleRepeatsRow : OpenClaim := { program := "ytijjgdgbeigljaa", sum := "b6cc00cb904ba2c66368dcdf4f8811e8c39f6b1806367b9d5e4a7acf3b10f138", func := "mapmaker/mapmakerlaw07.ScheduleRepeats", spec := "scheduleRepeats", apart := false }
def ScheduleRepeatsSaid : Prop := scheduleRepeatsRow.holds Try.pinned (OpenSpec.ofChange scheduleRepeatsSpec)

/-- ITS FALSE NEIGHBOUR: 'it returns false'. Refute it at one input. -/
def scheduleRepeatsWrong : ChangeSpec := { name := "scheduleRepeats", fn := fun _ => fun
  | [d1, d2, d3] => { results := [.lit (.bool false)], args := [d1, d2, d3] }
  | _ => none }
def ScheduleRepeatsWrongFalsely : Prop := scheduleRepeatsRow.holds Try.pinned (OpenSpec.ofChange scheduleRepeatsWrong)

/- THE SECOND FORM. 'bulk': how many values and letters a reading holds, each counted each time it is reached (what is shared counts as often as it is met; a slice's spare places count too). A statement '..UptoSaid' is the law's where the arguments, and the package variables that the reading takes, are together of bulk at most 1048576: NARROWER than '..Said'. Prove '..Said' where nothing that the law and all that it calls make is longer than what came in: it says more and counts as full. Else prove '..UptoSaid'. A law counts once. -/
mutual
def uptoBulk {H : Type} : DataW H → Nat
  | .lit (.string bytes) => bytes.length + 1
  | .lit _ => 1
  | .nil => 1
  | .ptr d => uptoBulk d + 1
  | .slice elems spare => uptoBulkAll elems + uptoBulkAll spare + 1
  | .agg parts => uptoBulkAll parts + 1
  | .iface _ d => uptoBulk d + 1
  | .map entries => uptoBulkEntries entries + 1
  | .held _ => 1
def uptoBulkAll {H : Type} : List (DataW H) → Nat
  | [] => 0
  | d :: r => uptoBulk d + uptoBulkAll r
def uptoBulkEntries {H : Type} : List (Lit × DataW H) → Nat
  | [] => 0
  | x :: r => uptoBulkEntry x + uptoBulkEntries r
def uptoBulkEntry {H : Type} : Lit × DataW H → Nat
  | (.string bytes, d) => bytes.length + uptoBulk d + 1
  | (_, d) => uptoBulk d + 1
 end
def uptoSmall : (H : Type) → List (DataW H) → Bool := fun _ ds => decide (uptoBulkAll ds ≤ 1048576)
def OpenSpec.upto (s : _root_.Go.ChangeSpec) : _root_.Go.OpenSpec := { _root_.Go.OpenSpec.ofChange s with cond := some uptoSmall }

/-- 'mapmakerlaw07.ScheduleChecks', WHERE WHAT IT READS IS OF BULK AT MOST 1048576: true; the input reads as it did. -/
def scheduleChecksUptoRow : OpenClaim := { program := "ytijjgdgbeigljaa", sum := "b6cc00cb904ba2c66368dcdf4f8811e8c39f6b1806367b9d5e4a7acf3b10f138", func := "mapmaker/mapmakerlaw07.ScheduleChecks", spec := "scheduleChecks", apart := false, narrowed := true }
def ScheduleChecksUptoSaid : Prop := scheduleChecksUptoRow.holds Try.pinned (OpenSpec.upto scheduleChecksSpec)

/-- 'mapmakerlaw07.ScheduleOpens', WHERE WHAT IT READS IS OF BULK AT MOST 1048576: true; the input reads as it did. -/
def scheduleOpensUptoRow : OpenClaim := { program := "ytijjgdgbeigljaa", sum := "b6cc00cb904ba2c66368dcdf4f8811e8c39f6b1806367b9d5e4a7acf3b10f138", func := "mapmaker/mapmakerlaw07.ScheduleOpens", spec := "scheduleOpens", apart := false, narrowed := true }
def ScheduleOpensUptoSaid : Prop := scheduleOpensUptoRow.holds Try.pinned (OpenSpec.upto scheduleOpensSpec)

/-- 'mapmakerlaw07.ScheduleNexts', WHERE WHAT IT READS IS OF BULK AT MOST 1048576: true; the input reads as it did. -/
def scheduleNextsUptoRow : OpenClaim := { program := "ytijjgdgbeigljaa", sum := "b6cc00cb904ba2c66368dcdf4f8811e8c39f6b1806367b9d5e4a7acf3b10f138", func := "mapmaker/mapmakerlaw07.ScheduleNexts", spec := "scheduleNexts", apart := false, narrowed := true }
def ScheduleNextsUptoSaid : Prop := scheduleNextsUptoRow.holds Try.pinned (OpenSpec.upto scheduleNextsSpec)

/-- 'mapmakerlaw07.ScheduleFrees', WHERE WHAT IT READS IS OF BULK AT MOST 1048576: true; the input reads as it did. -/
def scheduleFreesUptoRow : OpenClaim := { program := "ytijjgdgbeigljaa", sum := "b6cc00cb904ba2c66368dcdf4f8811e8c39f6b1806367b9d5e4a7acf3b10f138", func := "mapmaker/mapmakerlaw07.ScheduleFrees", spec := "scheduleFrees", apart := false, narrowed := true }
def ScheduleFreesUptoSaid : Prop := scheduleFreesUptoRow.holds Try.pinned (OpenSpec.upto scheduleFreesSpec)

/-- 'mapmakerlaw07.ScheduleMoves', WHERE WHAT IT READS IS OF BULK AT MOST 1048576: true; the input reads as it did. -/
def scheduleMovesUptoRow : OpenClaim := { program := "ytijjgdgbeigljaa", sum := "b6cc00cb904ba2c66368dcdf4f8811e8c39f6b1806367b9d5e4a7acf3b10f138", func := "mapmaker/mapmakerlaw07.ScheduleMoves", spec := "scheduleMoves", apart := false, narrowed := true }
def ScheduleMovesUptoSaid : Prop := scheduleMovesUptoRow.holds Try.pinned (OpenSpec.upto scheduleMovesSpec)

/-- 'mapmakerlaw07.ScheduleRepeats', WHERE WHAT IT READS IS OF BULK AT MOST 1048576: true; the input reads as it did. -/
def scheduleRepeatsUptoRow : OpenClaim := { program := "ytijjgdgbeigljaa", sum := "b6cc00cb904ba2c66368dcdf4f8811e8c39f6b1806367b9d5e4a7acf3b10f138", func := "mapmaker/mapmakerlaw07.ScheduleRepeats", spec := "scheduleRepeats", apart := false, narrowed := true }
def ScheduleRepeatsUptoSaid : Prop := scheduleRepeatsUptoRow.holds Try.pinned (OpenSpec.upto scheduleRepeatsSpec)

end Rows
end Go.Proofs.Ytijjgdgbeigljaa
