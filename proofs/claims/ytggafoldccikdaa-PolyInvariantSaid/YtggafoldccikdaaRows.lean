/-
  No cell of these rows narrows 'for every input' (looked for: loops, veiled, ifaces, maps, wideKeys, modest, calm, conditions, laid).
  DERIVED. THE GIVEN ROWS OF THIS SEAT. 5 by the template 'for every input the law returns true; each argument reads behind the call as it read before'; 0 by the template 'total and deterministic' (their statements: YtggafoldccikdaaTotals.lean).
  GIVEN WITH THE SEED: the statements are not yours to turn. If you find one false, say at which input.
  Laid BY PROGRAM, IN A SANDBOX (cutbox-rows.mjs): the forced cells as the released guide's own fill.sh prints them over the translation f71964aca1c51d4c… (all of the seat's roots in one cut). By AI agents, Wed Nov 11 2026. No macro, syntax, notation, axiom, sorry.
-/
import Derived.Test.YtggafoldccikdaaChecked
import GoSem.Claim
import GoSem.ClaimJoined
import GoSem.ClaimMapViews
import Derived.JoinedTies
import Derived.KernelRfl
namespace Go.Proofs.Ytggafoldccikdaa
/- THE CELL 'sum', in the pinned program and in every row, IS THE sha256 OF THE DUMP (.gsa) THAT YtggafoldccikdaaProg.lean LOADS. Nothing in Lean hashes anything: it is a label: what it is worth is what the hold of that sum in a sandbox is worth. -/
noncomputable def Try.pinned : Pinned := { name := "ytggafoldccikdaa", sum := "f71964aca1c51d4c714dc0a62df02d38668111bc7355530ff699dd3821050266", checked := Try.checked }
namespace Rows
def none {H : Type} : Left H := { results := [], args := [] }

/-- 'mapmakerlaw11.PolyMeasures': WHATEVER THE INPUT: true; the input reads as it did. -/
def polyMeasuresSpec : ChangeSpec := { name := "polyMeasures", fn := fun _ => fun
  | [d] => { results := [.lit (.bool true)], args := [d] }
  | _ => none }
def polyMeasuresRow : OpenClaim := { program := "ytggafoldccikdaa", sum := "f71964aca1c51d4c714dc0a62df02d38668111bc7355530ff699dd3821050266", func := "mapmaker/mapmakerlaw11.PolyMeasures", spec := "polyMeasures", unfollowed := true, recurses := true, apart := false }
def PolyMeasuresSaid : Prop := polyMeasuresRow.holds Try.pinned (OpenSpec.ofChange polyMeasuresSpec)

/-- ITS FALSE NEIGHBOUR: 'it returns false'. Refute it at one input. -/
def polyMeasuresWrong : ChangeSpec := { name := "polyMeasures", fn := fun _ => fun
  | [d] => { results := [.lit (.bool false)], args := [d] }
  | _ => none }
def PolyMeasuresWrongFalsely : Prop := polyMeasuresRow.holds Try.pinned (OpenSpec.ofChange polyMeasuresWrong)

/-- 'mapmakerlaw11.PolyWhere': WHATEVER THE INPUT: true; the input reads as it did. -/
def polyWhereSpec : ChangeSpec := { name := "polyWhere", fn := fun _ => fun
  | [d1, d2] => { results := [.lit (.bool true)], args := [d1, d2] }
  | _ => none }
def polyWhereRow : OpenClaim := { program := "ytggafoldccikdaa", sum := "f71964aca1c51d4c714dc0a62df02d38668111bc7355530ff699dd3821050266", func := "mapmaker/mapmakerlaw11.PolyWhere", spec := "polyWhere", unfollowed := true, recurses := true, apart := false }
def PolyWhereSaid : Prop := polyWhereRow.holds Try.pinned (OpenSpec.ofChange polyWhereSpec)

/-- ITS FALSE NEIGHBOUR: 'it returns false'. Refute it at one input. -/
def polyWhereWrong : ChangeSpec := { name := "polyWhere", fn := fun _ => fun
  | [d1, d2] => { results := [.lit (.bool false)], args := [d1, d2] }
  | _ => none }
def PolyWhereWrongFalsely : Prop := polyWhereRow.holds Try.pinned (OpenSpec.ofChange polyWhereWrong)

/-- 'mapmakerlaw11.PolyPick': WHATEVER THE INPUT: true; the input reads as it did. -/
def polyPickSpec : ChangeSpec := { name := "polyPick", fn := fun _ => fun
  | [d] => { results := [.lit (.bool true)], args := [d] }
  | _ => none }
def polyPickRow : OpenClaim := { program := "ytggafoldccikdaa", sum := "f71964aca1c51d4c714dc0a62df02d38668111bc7355530ff699dd3821050266", func := "mapmaker/mapmakerlaw11.PolyPick", spec := "polyPick", unfollowed := true, recurses := true, apart := false }
def PolyPickSaid : Prop := polyPickRow.holds Try.pinned (OpenSpec.ofChange polyPickSpec)

/-- ITS FALSE NEIGHBOUR: 'it returns false'. Refute it at one input. -/
def polyPickWrong : ChangeSpec := { name := "polyPick", fn := fun _ => fun
  | [d] => { results := [.lit (.bool false)], args := [d] }
  | _ => none }
def PolyPickWrongFalsely : Prop := polyPickRow.holds Try.pinned (OpenSpec.ofChange polyPickWrong)

/-- 'mapmakerlaw11.PolyTurns': WHATEVER THE INPUT: true; the input reads as it did. -/
def polyTurnsSpec : ChangeSpec := { name := "polyTurns", fn := fun _ => fun
  | [d1, d2] => { results := [.lit (.bool true)], args := [d1, d2] }
  | _ => none }
def polyTurnsRow : OpenClaim := { program := "ytggafoldccikdaa", sum := "f71964aca1c51d4c714dc0a62df02d38668111bc7355530ff699dd3821050266", func := "mapmaker/mapmakerlaw11.PolyTurns", spec := "polyTurns", unfollowed := true, recurses := true, apart := false }
def PolyTurnsSaid : Prop := polyTurnsRow.holds Try.pinned (OpenSpec.ofChange polyTurnsSpec)

/-- ITS FALSE NEIGHBOUR: 'it returns false'. Refute it at one input. -/
def polyTurnsWrong : ChangeSpec := { name := "polyTurns", fn := fun _ => fun
  | [d1, d2] => { results := [.lit (.bool false)], args := [d1, d2] }
  | _ => none }
def PolyTurnsWrongFalsely : Prop := polyTurnsRow.holds Try.pinned (OpenSpec.ofChange polyTurnsWrong)

/-- 'mapmakerlaw11.PolyInvariant': WHATEVER THE INPUT: true; the input reads as it did. -/
def polyInvariantSpec : ChangeSpec := { name := "polyInvariant", fn := fun _ => fun
  | [d1, d2, d3] => { results := [.lit (.bool true)], args := [d1, d2, d3] }
  | _ => none }
def polyInvariantRow : OpenClaim := { program := "ytggafoldccikdaa", sum := "f71964aca1c51d4c714dc0a62df02d38668111bc7355530ff699dd3821050266", func := "mapmaker/mapmakerlaw11.PolyInvariant", spec := "polyInvariant", unfollowed := true, recurses := true, apart := false }
def PolyInvariantSaid : Prop := polyInvariantRow.holds Try.pinned (OpenSpec.ofChange polyInvariantSpec)

/-- ITS FALSE NEIGHBOUR: 'it returns false'. Refute it at one input. -/
def polyInvariantWrong : ChangeSpec := { name := "polyInvariant", fn := fun _ => fun
  | [d1, d2, d3] => { results := [.lit (.bool false)], args := [d1, d2, d3] }
  | _ => none }
def PolyInvariantWrongFalsely : Prop := polyInvariantRow.holds Try.pinned (OpenSpec.ofChange polyInvariantWrong)

/- THE SECOND FORM. 'bulk': how many values and letters a reading holds, each counted each time it is reached (what is shared counts as often as it is met; a slice's spare places count too). A statement '..UptoSaid' is the law's where the arguments, and the package variables that the reading takes, are together of bulk at most 1048576: NARROWER than '..Said'. Prove '..Said' where nothing that the law and all that it calls make is longer than what came in: it says more and counts as full. Else prove '..UptoSaid'. A law counts once. -/
mutual
def uptoBulk {H : Type} : DataW H → Nat
  | .lit (.string bytes) => bytes.length + 1
  | .lit _ => 1
  | .nil => 1
  | .ptr d => uptoBulk d + 1
  | .slice elems spare => uptoBulkAll elems + uptoBulkAll spare + 1
  | .agg parts => uptoBulkAll parts + 1
  | .iface _ d => uptoBulk d + 1
  | .map entries => uptoBulkEntries entries + 1
  | .held _ => 1
def uptoBulkAll {H : Type} : List (DataW H) → Nat
  | [] => 0
  | d :: r => uptoBulk d + uptoBulkAll r
def uptoBulkEntries {H : Type} : List (Lit × DataW H) → Nat
  | [] => 0
  | x :: r => uptoBulkEntry x + uptoBulkEntries r
def uptoBulkEntry {H : Type} : Lit × DataW H → Nat
  | (.string bytes, d) => bytes.length + uptoBulk d + 1
  | (_, d) => uptoBulk d + 1
 end
def uptoSmall : (H : Type) → List (DataW H) → Bool := fun _ ds => decide (uptoBulkAll ds ≤ 1048576)
def OpenSpec.upto (s : _root_.Go.ChangeSpec) : _root_.Go.OpenSpec := { _root_.Go.OpenSpec.ofChange s with cond := some uptoSmall }

/-- 'mapmakerlaw11.PolyMeasures', WHERE WHAT IT READS IS OF BULK AT MOST 1048576: true; the input reads as it did. -/
def polyMeasuresUptoRow : OpenClaim := { program := "ytggafoldccikdaa", sum := "f71964aca1c51d4c714dc0a62df02d38668111bc7355530ff699dd3821050266", func := "mapmaker/mapmakerlaw11.PolyMeasures", spec := "polyMeasures", unfollowed := true, recurses := true, apart := false, narrowed := true }
def PolyMeasuresUptoSaid : Prop := polyMeasuresUptoRow.holds Try.pinned (OpenSpec.upto polyMeasuresSpec)

/-- 'mapmakerlaw11.PolyWhere', WHERE WHAT IT READS IS OF BULK AT MOST 1048576: true; the input reads as it did. -/
def polyWhereUptoRow : OpenClaim := { program := "ytggafoldccikdaa", sum := "f71964aca1c51d4c714dc0a62df02d38668111bc7355530ff699dd3821050266", func := "mapmaker/mapmakerlaw11.PolyWhere", spec := "polyWhere", unfollowed := true, recurses := true, apart := false, narrowed := true }
def PolyWhereUptoSaid : Prop := polyWhereUptoRow.holds Try.pinned (OpenSpec.upto polyWhereSpec)

/-- 'mapmakerlaw11.PolyPick', WHERE WHAT IT READS IS OF BULK AT MOST 1048576: true; the input reads as it did. -/
def polyPickUptoRow : OpenClaim := { program := "ytggafoldccikdaa", sum := "f71964aca1c51d4c714dc0a62df02d38668111bc7355530ff699dd3821050266", func := "mapmaker/mapmakerlaw11.PolyPick", spec := "polyPick", unfollowed := true, recurses := true, apart := false, narrowed := true }
def PolyPickUptoSaid : Prop := polyPickUptoRow.holds Try.pinned (OpenSpec.upto polyPickSpec)

/-- 'mapmakerlaw11.PolyTurns', WHERE WHAT IT READS IS OF BULK AT MOST 1048576: true; the input reads as it did. -/
def polyTurnsUptoRow : OpenClaim := { program := "ytggafoldccikdaa", sum := "f71964aca1c51d4c714dc0a62df02d38668111bc7355530ff699dd3821050266", func := "mapmaker/mapmakerlaw11.PolyTurns", spec := "polyTurns", unfollowed := true, recurses := true, apart := false, narrowed := true }
def PolyTurnsUptoSaid : Prop := polyTurnsUptoRow.holds Try.pinned (OpenSpec.upto polyTurnsSpec)

/-- 'mapmakerlaw11.PolyInvariant', WHERE WHAT IT READS IS OF BULK AT MOST 1048576: true; the input reads as it did. -/
def polyInvariantUptoRow : OpenClaim := { program := "ytggafoldccikdaa", sum := "f71964aca1c51d4c714dc0a62df02d38668111bc7355530ff699dd3821050266", func := "mapmaker/mapmakerlaw11.PolyInvariant", spec := "polyInvariant", unfollowed := true, recurses := true, apart := false, narrowed := true }
def PolyInvariantUptoSaid : Prop := polyInvariantUptoRow.holds Try.pinned (OpenSpec.upto polyInvariantSpec)

end Rows
end Go.Proofs.Ytggafoldccikdaa
