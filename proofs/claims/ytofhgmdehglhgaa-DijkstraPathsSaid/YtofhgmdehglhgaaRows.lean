/-
  No cell of these rows narrows 'for every input' (looked for: loops, veiled, ifaces, maps, wideKeys, modest, calm, conditions, laid).
  DERIVED. THE GIVEN ROWS OF THIS SEAT. 4 by the template 'for every input the law returns true; each argument reads behind the call as it read before'; 0 by the template 'total and deterministic' (their statements: YtofhgmdehglhgaaTotals.lean).
  GIVEN WITH THE SEED: the statements are not yours to turn. If you find one false, say at which input.
  Laid BY PROGRAM, IN A SANDBOX (cutbox-rows.mjs): the forced cells as the released guide's own fill.sh prints them over the translation 1a2c8032f73cf94f… (all of the seat's roots in one cut). By AI agents, Wed Nov 11 2026. No macro, syntax, notation, axiom, sorry.
-/
import Derived.Test.YtofhgmdehglhgaaChecked
import GoSem.Claim
import GoSem.ClaimJoined
import GoSem.ClaimMapViews
import Derived.JoinedTies
import Derived.KernelRfl
namespace Go.Proofs.Ytofhgmdehglhgaa
/- THE CELL 'sum', in the pinned program and in every row, IS THE sha256 OF THE DUMP (.gsa) THAT YtofhgmdehglhgaaProg.lean LOADS. Nothing in Lean hashes anything: it is a label: what it is worth is what the hold of that sum in a sandbox is worth. -/
noncomputable def Try.pinned : Pinned := { name := "ytofhgmdehglhgaa", sum := "1a2c8032f73cf94ffcd10af589e28e36b561c33ae5718b89f2a8c0cbcbc9a575", checked := Try.checked }
namespace Rows
def none {H : Type} : Left H := { results := [], args := [] }

/-- 'mapmakerlaw38.DijkstraPaths': WHATEVER THE INPUT: true; the input reads as it did. -/
def dijkstraPathsSpec : ChangeSpec := { name := "dijkstraPaths", fn := fun _ => fun
  | [d1, d2, d3, d4] => { results := [.lit (.bool true)], args := [d1, d2, d3, d4] }
  | _ => none }
def dijkstraPathsRow : OpenClaim := { program := "ytofhgmdehglhgaa", sum := "1a2c8032f73cf94ffcd10af589e28e36b561c33ae5718b89f2a8c0cbcbc9a575", func := "mapmaker/mapmakerlaw38.DijkstraPaths", spec := "dijkstraPaths", unfollowed := true, recurses := true, apart := false }
def DijkstraPathsSaid : Prop := dijkstraPathsRow.holds Try.pinned (OpenSpec.ofChange dijkstraPathsSpec)

/-- ITS FALSE NEIGHBOUR: 'it returns false'. Refute it at one input. -/
def dijkstraPathsWrong : ChangeSpec := { name := "dijkstraPaths", fn := fun _ => fun
  | [d1, d2, d3, d4] => { results := [.lit (.bool false)], args := [d1, d2, d3, d4] }
  | _ => none }
def DijkstraPathsWrongFalsely : Prop := dijkstraPathsRow.holds Try.pinned (OpenSpec.ofChange dijkstraPathsWrong)

/-- 'mapmakerlaw38.DijkstraArcs': WHATEVER THE INPUT: true; the input reads as it did. -/
def dijkstraArcsSpec : ChangeSpec := { name := "dijkstraArcs", fn := fun _ => fun
  | [d1, d2, d3] => { results := [.lit (.bool true)], args := [d1, d2, d3] }
  | _ => none }
def dijkstraArcsRow : OpenClaim := { program := "ytofhgmdehglhgaa", sum := "1a2c8032f73cf94ffcd10af589e28e36b561c33ae5718b89f2a8c0cbcbc9a575", func := "mapmaker/mapmakerlaw38.DijkstraArcs", spec := "dijkstraArcs", unfollowed := true, recurses := true, apart := false }
def DijkstraArcsSaid : Prop := dijkstraArcsRow.holds Try.pinned (OpenSpec.ofChange dijkstraArcsSpec)

/-- ITS FALSE NEIGHBOUR: 'it returns false'. Refute it at one input. -/
def dijkstraArcsWrong : ChangeSpec := { name := "dijkstraArcs", fn := fun _ => fun
  | [d1, d2, d3] => { results := [.lit (.bool false)], args := [d1, d2, d3] }
  | _ => none }
def DijkstraArcsWrongFalsely : Prop := dijkstraArcsRow.holds Try.pinned (OpenSpec.ofChange dijkstraArcsWrong)

/-- 'mapmakerlaw38.DijkstraDists': WHATEVER THE INPUT: true; the input reads as it did. -/
def dijkstraDistsSpec : ChangeSpec := { name := "dijkstraDists", fn := fun _ => fun
  | [d1, d2, d3] => { results := [.lit (.bool true)], args := [d1, d2, d3] }
  | _ => none }
def dijkstraDistsRow : OpenClaim := { program := "ytofhgmdehglhgaa", sum := "1a2c8032f73cf94ffcd10af589e28e36b561c33ae5718b89f2a8c0cbcbc9a575", func := "mapmaker/mapmakerlaw38.DijkstraDists", spec := "dijkstraDists", unfollowed := true, recurses := true, apart := false }
def DijkstraDistsSaid : Prop := dijkstraDistsRow.holds Try.pinned (OpenSpec.ofChange dijkstraDistsSpec)

/-- ITS FALSE NEIGHBOUR: 'it returns false'. Refute it at one input. -/
def dijkstraDistsWrong : ChangeSpec := { name := "dijkstraDists", fn := fun _ => fun
  | [d1, d2, d3] => { results := [.lit (.bool false)], args := [d1, d2, d3] }
  | _ => none }
def DijkstraDistsWrongFalsely : Prop := dijkstraDistsRow.holds Try.pinned (OpenSpec.ofChange dijkstraDistsWrong)

/-- 'mapmakerlaw38.DijkstraBack': WHATEVER THE INPUT: true; the input reads as it did. -/
def dijkstraBackSpec : ChangeSpec := { name := "dijkstraBack", fn := fun _ => fun
  | [d1, d2, d3, d4, d5] => { results := [.lit (.bool true)], args := [d1, d2, d3, d4, d5] }
  | _ => none }
def dijkstraBackRow : OpenClaim := { program := "ytofhgmdehglhgaa", sum := "1a2c8032f73cf94ffcd10af589e28e36b561c33ae5718b89f2a8c0cbcbc9a575", func := "mapmaker/mapmakerlaw38.DijkstraBack", spec := "dijkstraBack", unfollowed := true, recurses := true, apart := false }
def DijkstraBackSaid : Prop := dijkstraBackRow.holds Try.pinned (OpenSpec.ofChange dijkstraBackSpec)

/-- ITS FALSE NEIGHBOUR: 'it returns false'. Refute it at one input. -/
def dijkstraBackWrong : ChangeSpec := { name := "dijkstraBack", fn := fun _ => fun
  | [d1, d2, d3, d4, d5] => { results := [.lit (.bool false)], args := [d1, d2, d3, d4, d5] }
  | _ => none }
def DijkstraBackWrongFalsely : Prop := dijkstraBackRow.holds Try.pinned (OpenSpec.ofChange dijkstraBackWrong)

/- THE SECOND FORM. 'bulk': how many values and letters a reading holds, each counted each time it is reached (what is shared counts as often as it is met; a slice's spare places count too). A statement '..UptoSaid' is the law's where the arguments, and the package variables that the reading takes, are together of bulk at most 1048576: NARROWER than '..Said'. Prove '..Said' where nothing that the law and all that it calls make is longer than what came in: it says more and counts as full. Else prove '..UptoSaid'. A law counts once. -/
mutual
def uptoBulk {H : Type} : DataW H → Nat
  | .lit (.string bytes) => bytes.length + 1
  | .lit _ => 1
  | .nil => 1
  | .ptr d => uptoBulk d + 1
  | .slice elems spare => uptoBulkAll elems + uptoBulkAll spare + 1
  | .agg parts => uptoBulkAll parts + 1
  | .iface _ d => uptoBulk d + 1
  | .map entries => uptoBulkEntries entries + 1
  | .held _ => 1
def uptoBulkAll {H : Type} : List (DataW H) → Nat
  | [] => 0
  | d :: r => uptoBulk d + uptoBulkAll r
def uptoBulkEntries {H : Type} : List (Lit × DataW H) → Nat
  | [] => 0
  | x :: r => uptoBulkEntry x + uptoBulkEntries r
def uptoBulkEntry {H : Type} : Lit × DataW H → Nat
  | (.string bytes, d) => bytes.length + uptoBulk d + 1
  | (_, d) => uptoBulk d + 1
 end
def uptoSmall : (H : Type) → List (DataW H) → Bool := fun _ ds => decide (uptoBulkAll ds ≤ 1048576)
def OpenSpec.upto (s : _root_.Go.ChangeSpec) : _root_.Go.OpenSpec := { _root_.Go.OpenSpec.ofChange s with cond := some uptoSmall }

/-- 'mapmakerlaw38.DijkstraPaths', WHERE WHAT IT READS IS OF BULK AT MOST 1048576: true; the input reads as it did. -/
def dijkstraPathsUptoRow : OpenClaim := { program := "ytofhgmdehglhgaa", sum := "1a2c8032f73cf94ffcd10af589e28e36b561c33ae5718b89f2a8c0cbcbc9a575", func := "mapmaker/mapmakerlaw38.DijkstraPaths", spec := "dijkstraPaths", unfollowed := true, recurses := true, apart := false, narrowed := true }
def DijkstraPathsUptoSaid : Prop := dijkstraPathsUptoRow.holds Try.pinned (OpenSpec.upto dijkstraPathsSpec)

/-- 'mapmakerlaw38.DijkstraArcs', WHERE WHAT IT READS IS OF BULK AT MOST 1048576: true; the input reads as it did. -/
def dijkstraArcsUptoRow : OpenClaim := { program := "ytofhgmdehglhgaa", sum := "1a2c8032f73cf94ffcd10af589e28e36b561c33ae5718b89f2a8c0cbcbc9a575", func := "mapmaker/mapmakerlaw38.DijkstraArcs", spec := "dijkstraArcs", unfollowed := true, recurses := true, apart := false, narrowed := true }
def DijkstraArcsUptoSaid : Prop := dijkstraArcsUptoRow.holds Try.pinned (OpenSpec.upto dijkstraArcsSpec)

/-- 'mapmakerlaw38.DijkstraDists', WHERE WHAT IT READS IS OF BULK AT MOST 1048576: true; the input reads as it did. -/
def dijkstraDistsUptoRow : OpenClaim := { program := "ytofhgmdehglhgaa", sum := "1a2c8032f73cf94ffcd10af589e28e36b561c33ae5718b89f2a8c0cbcbc9a575", func := "mapmaker/mapmakerlaw38.DijkstraDists", spec := "dijkstraDists", unfollowed := true, recurses := true, apart := false, narrowed := true }
def DijkstraDistsUptoSaid : Prop := dijkstraDistsUptoRow.holds Try.pinned (OpenSpec.upto dijkstraDistsSpec)

/-- 'mapmakerlaw38.DijkstraBack', WHERE WHAT IT READS IS OF BULK AT MOST 1048576: true; the input reads as it did. -/
def dijkstraBackUptoRow : OpenClaim := { program := "ytofhgmdehglhgaa", sum := "1a2c8032f73cf94ffcd10af589e28e36b561c33ae5718b89f2a8c0cbcbc9a575", func := "mapmaker/mapmakerlaw38.DijkstraBack", spec := "dijkstraBack", unfollowed := true, recurses := true, apart := false, narrowed := true }
def DijkstraBackUptoSaid : Prop := dijkstraBackUptoRow.holds Try.pinned (OpenSpec.upto dijkstraBackSpec)

end Rows
end Go.Proofs.Ytofhgmdehglhgaa
