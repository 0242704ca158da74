/-
  No cell of these rows narrows 'for every input' (looked for: loops, veiled, ifaces, maps, wideKeys, modest, calm, conditions, laid).
  DERIVED. THE GIVEN ROWS OF THIS SEAT. 6 by the template 'for every input the law returns true; each argument reads behind the call as it read before'; 0 by the template 'total and deterministic' (their statements: YtdmobbbegdknkaaTotals.lean).
  GIVEN WITH THE SEED: the statements are not yours to turn. If you find one false, say at which input.
  Laid BY PROGRAM, IN A SANDBOX (cutbox-rows.mjs): the forced cells as the released guide's own fill.sh prints them over the translation e908367d726a8751… (all of the seat's roots in one cut). By AI agents, Wed Nov 11 2026. No macro, syntax, notation, axiom, sorry.
-/
import Derived.Test.YtdmobbbegdknkaaChecked
import GoSem.Claim
import GoSem.ClaimJoined
import GoSem.ClaimMapViews
import Derived.JoinedTies
import Derived.KernelRfl
namespace Go.Proofs.Ytdmobbbegdknkaa
/- THE CELL 'sum', in the pinned program and in every row, IS THE sha256 OF THE DUMP (.gsa) THAT YtdmobbbegdknkaaProg.lean LOADS. Nothing in Lean hashes anything: it is a label: what it is worth is what the hold of that sum in a sandbox is worth. -/
noncomputable def Try.pinned : Pinned := { name := "ytdmobbbegdknkaa", sum := "e908367d726a87514447b42a06b9160f58cfa013f75187ab0ba8616f485bb15d", checked := Try.checked }
namespace Rows
def none {H : Type} : Left H := { results := [], args := [] }

/-- 'mapmakerlaw28.TilegridCovers': WHATEVER THE INPUT: true; the input reads as it did. -/
def tilegridCoversSpec : ChangeSpec := { name := "tilegridCovers", fn := fun _ => fun
  | [d1, d2] => { results := [.lit (.bool true)], args := [d1, d2] }
  | _ => none }
def tilegridCoversRow : OpenClaim := { program := "ytdmobbbegdknkaa", sum := "e908367d726a87514447b42a06b9160f58cfa013f75187ab0ba8616f485bb15d", func := "mapmaker/mapmakerlaw28.TilegridCovers", spec := "tilegridCovers", unfollowed := true, recurses := true, apart := false }
def TilegridCoversSaid : Prop := tilegridCoversRow.holds Try.pinned (OpenSpec.ofChange tilegridCoversSpec)

/-- ITS FALSE NEIGHBOUR: 'it returns false'. Refute it at one input. -/
def tilegridCoversWrong : ChangeSpec := { name := "tilegridCovers", fn := fun _ => fun
  | [d1, d2] => { results := [.lit (.bool false)], args := [d1, d2] }
  | _ => none }
def TilegridCoversWrongFalsely : Prop := tilegridCoversRow.holds Try.pinned (OpenSpec.ofChange tilegridCoversWrong)

/-- 'mapmakerlaw28.TilegridChecks': WHATEVER THE INPUT: true; the input reads as it did. -/
def tilegridChecksSpec : ChangeSpec := { name := "tilegridChecks", fn := fun _ => fun
  | [d1, d2, d3] => { results := [.lit (.bool true)], args := [d1, d2, d3] }
  | _ => none }
def tilegridChecksRow : OpenClaim := { program := "ytdmobbbegdknkaa", sum := "e908367d726a87514447b42a06b9160f58cfa013f75187ab0ba8616f485bb15d", func := "mapmaker/mapmakerlaw28.TilegridChecks", spec := "tilegridChecks", unfollowed := true, recurses := true, apart := false }
def TilegridChecksSaid : Prop := tilegridChecksRow.holds Try.pinned (OpenSpec.ofChange tilegridChecksSpec)

/-- ITS FALSE NEIGHBOUR: 'it returns false'. Refute it at one input. -/
def tilegridChecksWrong : ChangeSpec := { name := "tilegridChecks", fn := fun _ => fun
  | [d1, d2, d3] => { results := [.lit (.bool false)], args := [d1, d2, d3] }
  | _ => none }
def TilegridChecksWrongFalsely : Prop := tilegridChecksRow.holds Try.pinned (OpenSpec.ofChange tilegridChecksWrong)

/-- 'mapmakerlaw28.TilegridNumbers': WHATEVER THE INPUT: true; the input reads as it did. -/
def tilegridNumbersSpec : ChangeSpec := { name := "tilegridNumbers", fn := fun _ => fun
  | [d1, d2, d3] => { results := [.lit (.bool true)], args := [d1, d2, d3] }
  | _ => none }
def tilegridNumbersRow : OpenClaim := { program := "ytdmobbbegdknkaa", sum := "e908367d726a87514447b42a06b9160f58cfa013f75187ab0ba8616f485bb15d", func := "mapmaker/mapmakerlaw28.TilegridNumbers", spec := "tilegridNumbers", unfollowed := true, recurses := true, apart := false }
def TilegridNumbersSaid : Prop := tilegridNumbersRow.holds Try.pinned (OpenSpec.ofChange tilegridNumbersSpec)

/-- ITS FALSE NEIGHBOUR: 'it returns false'. Refute it at one input. -/
def tilegridNumbersWrong : ChangeSpec := { name := "tilegridNumbers", fn := fun _ => fun
  | [d1, d2, d3] => { results := [.lit (.bool false)], args := [d1, d2, d3] }
  | _ => none }
def TilegridNumbersWrongFalsely : Prop := tilegridNumbersRow.holds Try.pinned (OpenSpec.ofChange tilegridNumbersWrong)

/-- 'mapmakerlaw28.TilegridHolds': WHATEVER THE INPUT: true; the input reads as it did. -/
def tilegridHoldsSpec : ChangeSpec := { name := "tilegridHolds", fn := fun _ => fun
  | [d1, d2, d3] => { results := [.lit (.bool true)], args := [d1, d2, d3] }
  | _ => none }
def tilegridHoldsRow : OpenClaim := { program := "ytdmobbbegdknkaa", sum := "e908367d726a87514447b42a06b9160f58cfa013f75187ab0ba8616f485bb15d", func := "mapmaker/mapmakerlaw28.TilegridHolds", spec := "tilegridHolds", unfollowed := true, recurses := true, apart := false }
def TilegridHoldsSaid : Prop := tilegridHoldsRow.holds Try.pinned (OpenSpec.ofChange tilegridHoldsSpec)

/-- ITS FALSE NEIGHBOUR: 'it returns false'. Refute it at one input. -/
def tilegridHoldsWrong : ChangeSpec := { name := "tilegridHolds", fn := fun _ => fun
  | [d1, d2, d3] => { results := [.lit (.bool false)], args := [d1, d2, d3] }
  | _ => none }
def TilegridHoldsWrongFalsely : Prop := tilegridHoldsRow.holds Try.pinned (OpenSpec.ofChange tilegridHoldsWrong)

/-- 'mapmakerlaw28.TilegridTree': WHATEVER THE INPUT: true; the input reads as it did. -/
def tilegridTreeSpec : ChangeSpec := { name := "tilegridTree", fn := fun _ => fun
  | [d] => { results := [.lit (.bool true)], args := [d] }
  | _ => none }
def tilegridTreeRow : OpenClaim := { program := "ytdmobbbegdknkaa", sum := "e908367d726a87514447b42a06b9160f58cfa013f75187ab0ba8616f485bb15d", func := "mapmaker/mapmakerlaw28.TilegridTree", spec := "tilegridTree", unfollowed := true, recurses := true, apart := false }
def TilegridTreeSaid : Prop := tilegridTreeRow.holds Try.pinned (OpenSpec.ofChange tilegridTreeSpec)

/-- ITS FALSE NEIGHBOUR: 'it returns false'. Refute it at one input. -/
def tilegridTreeWrong : ChangeSpec := { name := "tilegridTree", fn := fun _ => fun
  | [d] => { results := [.lit (.bool false)], args := [d] }
  | _ => none }
def TilegridTreeWrongFalsely : Prop := tilegridTreeRow.holds Try.pinned (OpenSpec.ofChange tilegridTreeWrong)

/-- 'mapmakerlaw28.TilegridKin': WHATEVER THE INPUT: true; the input reads as it did. -/
def tilegridKinSpec : ChangeSpec := { name := "tilegridKin", fn := fun _ => fun
  | [d1, d2, d3] => { results := [.lit (.bool true)], args := [d1, d2, d3] }
  | _ => none }
def tilegridKinRow : OpenClaim := { program := "ytdmobbbegdknkaa", sum := "e908367d726a87514447b42a06b9160f58cfa013f75187ab0ba8616f485bb15d", func := "mapmaker/mapmakerlaw28.TilegridKin", spec := "tilegridKin", unfollowed := true, recurses := true, apart := false }
def TilegridKinSaid : Prop := tilegridKinRow.holds Try.pinned (OpenSpec.ofChange tilegridKinSpec)

/-- ITS FALSE NEIGHBOUR: 'it returns false'. Refute it at one input. -/
def tilegridKinWrong : ChangeSpec := { name := "tilegridKin", fn := fun _ => fun
  | [d1, d2, d3] => { results := [.lit (.bool false)], args := [d1, d2, d3] }
  | _ => none }
def TilegridKinWrongFalsely : Prop := tilegridKinRow.holds Try.pinned (OpenSpec.ofChange tilegridKinWrong)

/- THE SECOND FORM. 'bulk': how many values and letters a reading holds, each counted each time it is reached (what is shared counts as often as it is met; a slice's spare places count too). A statement '..UptoSaid' is the law's where the arguments, and the package variables that the reading takes, are together of bulk at most 1048576: NARROWER than '..Said'. Prove '..Said' where nothing that the law and all that it calls make is longer than what came in: it says more and counts as full. Else prove '..UptoSaid'. A law counts once. -/
mutual
def uptoBulk {H : Type} : DataW H → Nat
  | .lit (.string bytes) => bytes.length + 1
  | .lit _ => 1
  | .nil => 1
  | .ptr d => uptoBulk d + 1
  | .slice elems spare => uptoBulkAll elems + uptoBulkAll spare + 1
  | .agg parts => uptoBulkAll parts + 1
  | .iface _ d => uptoBulk d + 1
  | .map entries => uptoBulkEntries entries + 1
  | .held _ => 1
def uptoBulkAll {H : Type} : List (DataW H) → Nat
  | [] => 0
  | d :: r => uptoBulk d + uptoBulkAll r
def uptoBulkEntries {H : Type} : List (Lit × DataW H) → Nat
  | [] => 0
  | x :: r => uptoBulkEntry x + uptoBulkEntries r
def uptoBulkEntry {H : Type} : Lit × DataW H → Nat
  | (.string bytes, d) => bytes.length + uptoBulk d + 1
  | (_, d) => uptoBulk d + 1
 end
def uptoSmall : (H : Type) → List (DataW H) → Bool := fun _ ds => decide (uptoBulkAll ds ≤ 1048576)
def OpenSpec.upto (s : _root_.Go.ChangeSpec) : _root_.Go.OpenSpec := { _root_.Go.OpenSpec.ofChange s with cond := some uptoSmall }

/-- 'mapmakerlaw28.TilegridCovers', WHERE WHAT IT READS IS OF BULK AT MOST 1048576: true; the input reads as it did. -/
def tilegridCoversUptoRow : OpenClaim := { program := "ytdmobbbegdknkaa", sum := "e908367d726a87514447b42a06b9160f58cfa013f75187ab0ba8616f485bb15d", func := "mapmaker/mapmakerlaw28.TilegridCovers", spec := "tilegridCovers", unfollowed := true, recurses := true, apart := false, narrowed := true }
def TilegridCoversUptoSaid : Prop := tilegridCoversUptoRow.holds Try.pinned (OpenSpec.upto tilegridCoversSpec)

/-- 'mapmakerlaw28.TilegridChecks', WHERE WHAT IT READS IS OF BULK AT MOST 1048576: true; the input reads as it did. -/
def tilegridChecksUptoRow : OpenClaim := { program := "ytdmobbbegdknkaa", sum := "e908367d726a87514447b42a06b9160f58cfa013f75187ab0ba8616f485bb15d", func := "mapmaker/mapmakerlaw28.TilegridChecks", spec := "tilegridChecks", unfollowed := true, recurses := true, apart := false, narrowed := true }
def TilegridChecksUptoSaid : Prop := tilegridChecksUptoRow.holds Try.pinned (OpenSpec.upto tilegridChecksSpec)

/-- 'mapmakerlaw28.TilegridNumbers', WHERE WHAT IT READS IS OF BULK AT MOST 1048576: true; the input reads as it did. -/
def tilegridNumbersUptoRow : OpenClaim := { program := "ytdmobbbegdknkaa", sum := "e908367d726a87514447b42a06b9160f58cfa013f75187ab0ba8616f485bb15d", func := "mapmaker/mapmakerlaw28.TilegridNumbers", spec := "tilegridNumbers", unfollowed := true, recurses := true, apart := false, narrowed := true }
def TilegridNumbersUptoSaid : Prop := tilegridNumbersUptoRow.holds Try.pinned (OpenSpec.upto tilegridNumbersSpec)

/-- 'mapmakerlaw28.TilegridHolds', WHERE WHAT IT READS IS OF BULK AT MOST 1048576: true; the input reads as it did. -/
def tilegridHoldsUptoRow : OpenClaim := { program := "ytdmobbbegdknkaa", sum := "e908367d726a87514447b42a06b9160f58cfa013f75187ab0ba8616f485bb15d", func := "mapmaker/mapmakerlaw28.TilegridHolds", spec := "tilegridHolds", unfollowed := true, recurses := true, apart := false, narrowed := true }
def TilegridHoldsUptoSaid : Prop := tilegridHoldsUptoRow.holds Try.pinned (OpenSpec.upto tilegridHoldsSpec)

/-- 'mapmakerlaw28.TilegridTree', WHERE WHAT IT READS IS OF BULK AT MOST 1048576: true; the input reads as it did. -/
def tilegridTreeUptoRow : OpenClaim := { program := "ytdmobbbegdknkaa", sum := "e908367d726a87514447b42a06b9160f58cfa013f75187ab0ba8616f485bb15d", func := "mapmaker/mapmakerlaw28.TilegridTree", spec := "tilegridTree", unfollowed := true, recurses := true, apart := false, narrowed := true }
def TilegridTreeUptoSaid : Prop := tilegridTreeUptoRow.holds Try.pinned (OpenSpec.upto tilegridTreeSpec)

/-- 'mapmakerlaw28.TilegridKin', WHERE WHAT IT READS IS OF BULK AT MOST 1048576: true; the input reads as it did. -/
def tilegridKinUptoRow : OpenClaim := { program := "ytdmobbbegdknkaa", sum := "e908367d726a87514447b42a06b9160f58cfa013f75187ab0ba8616f485bb15d", func := "mapmaker/mapmakerlaw28.TilegridKin", spec := "tilegridKin", unfollowed := true, recurses := true, apart := false, narrowed := true }
def TilegridKinUptoSaid : Prop := tilegridKinUptoRow.holds Try.pinned (OpenSpec.upto tilegridKinSpec)

end Rows
end Go.Proofs.Ytdmobbbegdknkaa
