/-
  No cell of these rows narrows 'for every input' (looked for: loops, veiled, ifaces, maps, wideKeys, modest, calm, conditions, laid).
  DERIVED. THE GIVEN ROWS OF THIS SEAT. 5 by the template 'for every input the law returns true; each argument reads behind the call as it read before'; 0 by the template 'total and deterministic' (their statements: YtpdgifldpnpeeaaTotals.lean).
  GIVEN WITH THE SEED: the statements are not yours to turn. If you find one false, say at which input.
  Laid BY PROGRAM, IN A SANDBOX (cutbox-rows.mjs): the forced cells as the released guide's own fill.sh prints them over the translation 15dc46dce236fd86… (all of the seat's roots in one cut). By AI agents, Wed Nov 11 2026. No macro, syntax, notation, axiom, sorry.
-/
import Derived.Test.YtpdgifldpnpeeaaChecked
import GoSem.Claim
import GoSem.ClaimJoined
import GoSem.ClaimMapViews
import Derived.JoinedTies
import Derived.KernelRfl
namespace Go.Proofs.Ytpdgifldpnpeeaa
/- THE CELL 'sum', in the pinned program and in every row, IS THE sha256 OF THE DUMP (.gsa) THAT YtpdgifldpnpeeaaProg.lean LOADS. Nothing in Lean hashes anything: it is a label: what it is worth is what the hold of that sum in a sandbox is worth. -/
noncomputable def Try.pinned : Pinned := { name := "ytpdgifldpnpeeaa", sum := "15dc46dce236fd86d1132d2fd9c7dfaca6c50adc12b41db0a1686aa29401dad7", checked := Try.checked }
namespace Rows
def none {H : Type} : Left H := { results := [], args := [] }

/-- 'mapmakerlaw04.PqSorts': WHATEVER THE INPUT: true; the input reads as it did. -/
def pqSortsSpec : ChangeSpec := { name := "pqSorts", fn := fun _ => fun
  | [d] => { results := [.lit (.bool true)], args := [d] }
  | _ => none }
def pqSortsRow : OpenClaim := { program := "ytpdgifldpnpeeaa", sum := "15dc46dce236fd86d1132d2fd9c7dfaca6c50adc12b41db0a1686aa29401dad7", func := "mapmaker/mapmakerlaw04.PqSorts", spec := "pqSorts", unfollowed := true, recurses := true, apart := false }
def PqSortsSaid : Prop := pqSortsRow.holds Try.pinned (OpenSpec.ofChange pqSortsSpec)

/-- ITS FALSE NEIGHBOUR: 'it returns false'. Refute it at one input. -/
def pqSortsWrong : ChangeSpec := { name := "pqSorts", fn := fun _ => fun
  | [d] => { results := [.lit (.bool false)], args := [d] }
  | _ => none }
def PqSortsWrongFalsely : Prop := pqSortsRow.holds Try.pinned (OpenSpec.ofChange pqSortsWrong)

/-- 'mapmakerlaw04.PqMoves': WHATEVER THE INPUT: true; the input reads as it did. -/
def pqMovesSpec : ChangeSpec := { name := "pqMoves", fn := fun _ => fun
  | [d1, d2] => { results := [.lit (.bool true)], args := [d1, d2] }
  | _ => none }
def pqMovesRow : OpenClaim := { program := "ytpdgifldpnpeeaa", sum := "15dc46dce236fd86d1132d2fd9c7dfaca6c50adc12b41db0a1686aa29401dad7", func := "mapmaker/mapmakerlaw04.PqMoves", spec := "pqMoves", unfollowed := true, recurses := true, apart := false }
def PqMovesSaid : Prop := pqMovesRow.holds Try.pinned (OpenSpec.ofChange pqMovesSpec)

/-- ITS FALSE NEIGHBOUR: 'it returns false'. Refute it at one input. -/
def pqMovesWrong : ChangeSpec := { name := "pqMoves", fn := fun _ => fun
  | [d1, d2] => { results := [.lit (.bool false)], args := [d1, d2] }
  | _ => none }
def PqMovesWrongFalsely : Prop := pqMovesRow.holds Try.pinned (OpenSpec.ofChange pqMovesWrong)

/-- 'mapmakerlaw04.PqDrops': WHATEVER THE INPUT: true; the input reads as it did. -/
def pqDropsSpec : ChangeSpec := { name := "pqDrops", fn := fun _ => fun
  | [d1, d2] => { results := [.lit (.bool true)], args := [d1, d2] }
  | _ => none }
def pqDropsRow : OpenClaim := { program := "ytpdgifldpnpeeaa", sum := "15dc46dce236fd86d1132d2fd9c7dfaca6c50adc12b41db0a1686aa29401dad7", func := "mapmaker/mapmakerlaw04.PqDrops", spec := "pqDrops", unfollowed := true, recurses := true, apart := false }
def PqDropsSaid : Prop := pqDropsRow.holds Try.pinned (OpenSpec.ofChange pqDropsSpec)

/-- ITS FALSE NEIGHBOUR: 'it returns false'. Refute it at one input. -/
def pqDropsWrong : ChangeSpec := { name := "pqDrops", fn := fun _ => fun
  | [d1, d2] => { results := [.lit (.bool false)], args := [d1, d2] }
  | _ => none }
def PqDropsWrongFalsely : Prop := pqDropsRow.holds Try.pinned (OpenSpec.ofChange pqDropsWrong)

/-- 'mapmakerlaw04.PqPlays': WHATEVER THE INPUT: true; the input reads as it did. -/
def pqPlaysSpec : ChangeSpec := { name := "pqPlays", fn := fun _ => fun
  | [d1, d2] => { results := [.lit (.bool true)], args := [d1, d2] }
  | _ => none }
def pqPlaysRow : OpenClaim := { program := "ytpdgifldpnpeeaa", sum := "15dc46dce236fd86d1132d2fd9c7dfaca6c50adc12b41db0a1686aa29401dad7", func := "mapmaker/mapmakerlaw04.PqPlays", spec := "pqPlays", unfollowed := true, recurses := true, apart := false }
def PqPlaysSaid : Prop := pqPlaysRow.holds Try.pinned (OpenSpec.ofChange pqPlaysSpec)

/-- ITS FALSE NEIGHBOUR: 'it returns false'. Refute it at one input. -/
def pqPlaysWrong : ChangeSpec := { name := "pqPlays", fn := fun _ => fun
  | [d1, d2] => { results := [.lit (.bool false)], args := [d1, d2] }
  | _ => none }
def PqPlaysWrongFalsely : Prop := pqPlaysRow.holds Try.pinned (OpenSpec.ofChange pqPlaysWrong)

/-- 'mapmakerlaw04.PqSizes': WHATEVER THE INPUT: true; the input reads as it did. -/
def pqSizesSpec : ChangeSpec := { name := "pqSizes", fn := fun _ => fun
  | [d1, d2] => { results := [.lit (.bool true)], args := [d1, d2] }
  | _ => none }
def pqSizesRow : OpenClaim := { program := "ytpdgifldpnpeeaa", sum := "15dc46dce236fd86d1132d2fd9c7dfaca6c50adc12b41db0a1686aa29401dad7", func := "mapmaker/mapmakerlaw04.PqSizes", spec := "pqSizes", unfollowed := true, recurses := true, apart := false }
def PqSizesSaid : Prop := pqSizesRow.holds Try.pinned (OpenSpec.ofChange pqSizesSpec)

/-- ITS FALSE NEIGHBOUR: 'it returns false'. Refute it at one input. -/
def pqSizesWrong : ChangeSpec := { name := "pqSizes", fn := fun _ => fun
  | [d1, d2] => { results := [.lit (.bool false)], args := [d1, d2] }
  | _ => none }
def PqSizesWrongFalsely : Prop := pqSizesRow.holds Try.pinned (OpenSpec.ofChange pqSizesWrong)

/- THE SECOND FORM. 'bulk': how many values and letters a reading holds, each counted each time it is reached (what is shared counts as often as it is met; a slice's spare places count too). A statement '..UptoSaid' is the law's where the arguments, and the package variables that the reading takes, are together of bulk at most 1048576: NARROWER than '..Said'. Prove '..Said' where nothing that the law and all that it calls make is longer than what came in: it says more and counts as full. Else prove '..UptoSaid'. A law counts once. -/
mutual
def uptoBulk {H : Type} : DataW H → Nat
  | .lit (.string bytes) => bytes.length + 1
  | .lit _ => 1
  | .nil => 1
  | .ptr d => uptoBulk d + 1
  | .slice elems spare => uptoBulkAll elems + uptoBulkAll spare + 1
  | .agg parts => uptoBulkAll parts + 1
  | .iface _ d => uptoBulk d + 1
  | .map entries => uptoBulkEntries entries + 1
  | .held _ => 1
def uptoBulkAll {H : Type} : List (DataW H) → Nat
  | [] => 0
  | d :: r => uptoBulk d + uptoBulkAll r
def uptoBulkEntries {H : Type} : List (Lit × DataW H) → Nat
  | [] => 0
  | x :: r => uptoBulkEntry x + uptoBulkEntries r
def uptoBulkEntry {H : Type} : Lit × DataW H → Nat
  | (.string bytes, d) => bytes.length + uptoBulk d + 1
  | (_, d) => uptoBulk d + 1
 end
def uptoSmall : (H : Type) → List (DataW H) → Bool := fun _ ds => decide (uptoBulkAll ds ≤ 1048576)
def OpenSpec.upto (s : _root_.Go.ChangeSpec) : _root_.Go.OpenSpec := { _root_.Go.OpenSpec.ofChange s with cond := some uptoSmall }

/-- 'mapmakerlaw04.PqSorts', WHERE WHAT IT READS IS OF BULK AT MOST 1048576: true; the input reads as it did. -/
def pqSortsUptoRow : OpenClaim := { program := "ytpdgifldpnpeeaa", sum := "15dc46dce236fd86d1132d2fd9c7dfaca6c50adc12b41db0a1686aa29401dad7", func := "mapmaker/mapmakerlaw04.PqSorts", spec := "pqSorts", unfollowed := true, recurses := true, apart := false, narrowed := true }
def PqSortsUptoSaid : Prop := pqSortsUptoRow.holds Try.pinned (OpenSpec.upto pqSortsSpec)

/-- 'mapmakerlaw04.PqMoves', WHERE WHAT IT READS IS OF BULK AT MOST 1048576: true; the input reads as it did. -/
def pqMovesUptoRow : OpenClaim := { program := "ytpdgifldpnpeeaa", sum := "15dc46dce236fd86d1132d2fd9c7dfaca6c50adc12b41db0a1686aa29401dad7", func := "mapmaker/mapmakerlaw04.PqMoves", spec := "pqMoves", unfollowed := true, recurses := true, apart := false, narrowed := true }
def PqMovesUptoSaid : Prop := pqMovesUptoRow.holds Try.pinned (OpenSpec.upto pqMovesSpec)

/-- 'mapmakerlaw04.PqDrops', WHERE WHAT IT READS IS OF BULK AT MOST 1048576: true; the input reads as it did. -/
def pqDropsUptoRow : OpenClaim := { program := "ytpdgifldpnpeeaa", sum := "15dc46dce236fd86d1132d2fd9c7dfaca6c50adc12b41db0a1686aa29401dad7", func := "mapmaker/mapmakerlaw04.PqDrops", spec := "pqDrops", unfollowed := true, recurses := true, apart := false, narrowed := true }
def PqDropsUptoSaid : Prop := pqDropsUptoRow.holds Try.pinned (OpenSpec.upto pqDropsSpec)

/-- 'mapmakerlaw04.PqPlays', WHERE WHAT IT READS IS OF BULK AT MOST 1048576: true; the input reads as it did. -/
def pqPlaysUptoRow : OpenClaim := { program := "ytpdgifldpnpeeaa", sum := "15dc46dce236fd86d1132d2fd9c7dfaca6c50adc12b41db0a1686aa29401dad7", func := "mapmaker/mapmakerlaw04.PqPlays", spec := "pqPlays", unfollowed := true, recurses := true, apart := false, narrowed := true }
def PqPlaysUptoSaid : Prop := pqPlaysUptoRow.holds Try.pinned (OpenSpec.upto pqPlaysSpec)

/-- 'mapmakerlaw04.PqSizes', WHERE WHAT IT READS IS OF BULK AT MOST 1048576: true; the input reads as it did. -/
def pqSizesUptoRow : OpenClaim := { program := "ytpdgifldpnpeeaa", sum := "15dc46dce236fd86d1132d2fd9c7dfaca6c50adc12b41db0a1686aa29401dad7", func := "mapmaker/mapmakerlaw04.PqSizes", spec := "pqSizes", unfollowed := true, recurses := true, apart := false, narrowed := true }
def PqSizesUptoSaid : Prop := pqSizesUptoRow.holds Try.pinned (OpenSpec.upto pqSizesSpec)

end Rows
end Go.Proofs.Ytpdgifldpnpeeaa
