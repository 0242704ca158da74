/-
  No cell of these rows narrows 'for every input' (looked for: loops, veiled, ifaces, maps, wideKeys, modest, calm, conditions, laid).
  DERIVED. THE GIVEN ROWS OF THIS SEAT. 5 by the template 'for every input the law returns true; each argument reads behind the call as it read before'; 0 by the template 'total and deterministic' (their statements: YtfmanlgfinlekaaTotals.lean).
  GIVEN WITH THE SEED: the statements are not yours to turn. If you find one false, say at which input.
  Laid BY PROGRAM, IN A SANDBOX (cutbox-rows.mjs): the forced cells as the released guide's own fill.sh prints them over the translation 6b70ff68ad98840c… (all of the seat's roots in one cut). By AI agents, Wed Nov 11 2026. No macro, syntax, notation, axiom, sorry.
-/
import Derived.Test.YtfmanlgfinlekaaChecked
import GoSem.Claim
import GoSem.ClaimJoined
import GoSem.ClaimMapViews
import Derived.JoinedTies
import Derived.KernelRfl
namespace Go.Proofs.Ytfmanlgfinlekaa
/- THE CELL 'sum', in the pinned program and in every row, IS THE sha256 OF THE DUMP (.gsa) THAT YtfmanlgfinlekaaProg.lean LOADS. Nothing in Lean hashes anything: it is a label: what it is worth is what the hold of that sum in a sandbox is worth. -/
noncomputable def Try.pinned : Pinned := { name := "ytfmanlgfinlekaa", sum := "6b70ff68ad98840cc7152e1e79ad3f873fe0a1f07836ba04c7c4e926823f0405", checked := Try.checked }
namespace Rows
def none {H : Type} : Left H := { results := [], args := [] }

/-- 'mapmakerlaw51.WordsFolds': WHATEVER THE INPUT: true; the input reads as it did. -/
def wordsFoldsSpec : ChangeSpec := { name := "wordsFolds", fn := fun _ => fun
  | [d] => { results := [.lit (.bool true)], args := [d] }
  | _ => none }
def wordsFoldsRow : OpenClaim := { program := "ytfmanlgfinlekaa", sum := "6b70ff68ad98840cc7152e1e79ad3f873fe0a1f07836ba04c7c4e926823f0405", func := "mapmaker/mapmakerlaw51.WordsFolds", spec := "wordsFolds", apart := false }
def WordsFoldsSaid : Prop := wordsFoldsRow.holds Try.pinned (OpenSpec.ofChange wordsFoldsSpec)

/-- ITS FALSE NEIGHBOUR: 'it returns false'. Refute it at one input. -/
def wordsFoldsWrong : ChangeSpec := { name := "wordsFolds", fn := fun _ => fun
  | [d] => { results := [.lit (.bool false)], args := [d] }
  | _ => none }
def WordsFoldsWrongFalsely : Prop := wordsFoldsRow.holds Try.pinned (OpenSpec.ofChange wordsFoldsWrong)

/-- 'mapmakerlaw51.WordsOf': WHATEVER THE INPUT: true; the input reads as it did. -/
def wordsOfSpec : ChangeSpec := { name := "wordsOf", fn := fun _ => fun
  | [d1, d2] => { results := [.lit (.bool true)], args := [d1, d2] }
  | _ => none }
def wordsOfRow : OpenClaim := { program := "ytfmanlgfinlekaa", sum := "6b70ff68ad98840cc7152e1e79ad3f873fe0a1f07836ba04c7c4e926823f0405", func := "mapmaker/mapmakerlaw51.WordsOf", spec := "wordsOf", apart := false }
def WordsOfSaid : Prop := wordsOfRow.holds Try.pinned (OpenSpec.ofChange wordsOfSpec)

/-- ITS FALSE NEIGHBOUR: 'it returns false'. Refute it at one input. -/
def wordsOfWrong : ChangeSpec := { name := "wordsOf", fn := fun _ => fun
  | [d1, d2] => { results := [.lit (.bool false)], args := [d1, d2] }
  | _ => none }
def WordsOfWrongFalsely : Prop := wordsOfRow.holds Try.pinned (OpenSpec.ofChange wordsOfWrong)

/-- 'mapmakerlaw51.WordsCases': WHATEVER THE INPUT: true; the input reads as it did. -/
def wordsCasesSpec : ChangeSpec := { name := "wordsCases", fn := fun _ => fun
  | [d] => { results := [.lit (.bool true)], args := [d] }
  | _ => none }
def wordsCasesRow : OpenClaim := { program := "ytfmanlgfinlekaa", sum := "6b70ff68ad98840cc7152e1e79ad3f873fe0a1f07836ba04c7c4e926823f0405", func := "mapmaker/mapmakerlaw51.WordsCases", spec := "wordsCases", apart := false }
def WordsCasesSaid : Prop := wordsCasesRow.holds Try.pinned (OpenSpec.ofChange wordsCasesSpec)

/-- ITS FALSE NEIGHBOUR: 'it returns false'. Refute it at one input. -/
def wordsCasesWrong : ChangeSpec := { name := "wordsCases", fn := fun _ => fun
  | [d] => { results := [.lit (.bool false)], args := [d] }
  | _ => none }
def WordsCasesWrongFalsely : Prop := wordsCasesRow.holds Try.pinned (OpenSpec.ofChange wordsCasesWrong)

/-- 'mapmakerlaw51.WordsParts': WHATEVER THE INPUT: true; the input reads as it did. -/
def wordsPartsSpec : ChangeSpec := { name := "wordsParts", fn := fun _ => fun
  | [d1, d2] => { results := [.lit (.bool true)], args := [d1, d2] }
  | _ => none }
def wordsPartsRow : OpenClaim := { program := "ytfmanlgfinlekaa", sum := "6b70ff68ad98840cc7152e1e79ad3f873fe0a1f07836ba04c7c4e926823f0405", func := "mapmaker/mapmakerlaw51.WordsParts", spec := "wordsParts", apart := false }
def WordsPartsSaid : Prop := wordsPartsRow.holds Try.pinned (OpenSpec.ofChange wordsPartsSpec)

/-- ITS FALSE NEIGHBOUR: 'it returns false'. Refute it at one input. -/
def wordsPartsWrong : ChangeSpec := { name := "wordsParts", fn := fun _ => fun
  | [d1, d2] => { results := [.lit (.bool false)], args := [d1, d2] }
  | _ => none }
def WordsPartsWrongFalsely : Prop := wordsPartsRow.holds Try.pinned (OpenSpec.ofChange wordsPartsWrong)

/-- 'mapmakerlaw51.WordsAgain': WHATEVER THE INPUT: true; the input reads as it did. -/
def wordsAgainSpec : ChangeSpec := { name := "wordsAgain", fn := fun _ => fun
  | [d] => { results := [.lit (.bool true)], args := [d] }
  | _ => none }
def wordsAgainRow : OpenClaim := { program := "ytfmanlgfinlekaa", sum := "6b70ff68ad98840cc7152e1e79ad3f873fe0a1f07836ba04c7c4e926823f0405", func := "mapmaker/mapmakerlaw51.WordsAgain", spec := "wordsAgain", apart := false }
def WordsAgainSaid : Prop := wordsAgainRow.holds Try.pinned (OpenSpec.ofChange wordsAgainSpec)

/-- ITS FALSE NEIGHBOUR: 'it returns false'. Refute it at one input. -/
def wordsAgainWrong : ChangeSpec := { name := "wordsAgain", fn := fun _ => fun
  | [d] => { results := [.lit (.bool false)], args := [d] }
  | _ => none }
def WordsAgainWrongFalsely : Prop := wordsAgainRow.holds Try.pinned (OpenSpec.ofChange wordsAgainWrong)

/- THE SECOND FORM. 'bulk': how many values and letters a reading holds, each counted each time it is reached (what is shared counts as often as it is met; a slice's spare places count too). A statement '..UptoSaid' is the law's where the arguments, and the package variables that the reading takes, are together of bulk at most 1048576: NARROWER than '..Said'. Prove '..Said' where nothing that the law and all that it calls make is longer than what came in: it says more and counts as full. Else prove '..UptoSaid'. A law counts once. -/
mutual
def uptoBulk {H : Type} : DataW H → Nat
  | .lit (.string bytes) => bytes.length + 1
  | .lit _ => 1
  | .nil => 1
  | .ptr d => uptoBulk d + 1
  | .slice elems spare => uptoBulkAll elems + uptoBulkAll spare + 1
  | .agg parts => uptoBulkAll parts + 1
  | .iface _ d => uptoBulk d + 1
  | .map entries => uptoBulkEntries entries + 1
  | .held _ => 1
def uptoBulkAll {H : Type} : List (DataW H) → Nat
  | [] => 0
  | d :: r => uptoBulk d + uptoBulkAll r
def uptoBulkEntries {H : Type} : List (Lit × DataW H) → Nat
  | [] => 0
  | x :: r => uptoBulkEntry x + uptoBulkEntries r
def uptoBulkEntry {H : Type} : Lit × DataW H → Nat
  | (.string bytes, d) => bytes.length + uptoBulk d + 1
  | (_, d) => uptoBulk d + 1
 end
def uptoSmall : (H : Type) → List (DataW H) → Bool := fun _ ds => decide (uptoBulkAll ds ≤ 1048576)
def OpenSpec.upto (s : _root_.Go.ChangeSpec) : _root_.Go.OpenSpec := { _root_.Go.OpenSpec.ofChange s with cond := some uptoSmall }

/-- 'mapmakerlaw51.WordsFolds', WHERE WHAT IT READS IS OF BULK AT MOST 1048576: true; the input reads as it did. -/
def wordsFoldsUptoRow : OpenClaim := { program := "ytfmanlgfinlekaa", sum := "6b70ff68ad98840cc7152e1e79ad3f873fe0a1f07836ba04c7c4e926823f0405", func := "mapmaker/mapmakerlaw51.WordsFolds", spec := "wordsFolds", apart := false, narrowed := true }
def WordsFoldsUptoSaid : Prop := wordsFoldsUptoRow.holds Try.pinned (OpenSpec.upto wordsFoldsSpec)

/-- 'mapmakerlaw51.WordsOf', WHERE WHAT IT READS IS OF BULK AT MOST 1048576: true; the input reads as it did. -/
def wordsOfUptoRow : OpenClaim := { program := "ytfmanlgfinlekaa", sum := "6b70ff68ad98840cc7152e1e79ad3f873fe0a1f07836ba04c7c4e926823f0405", func := "mapmaker/mapmakerlaw51.WordsOf", spec := "wordsOf", apart := false, narrowed := true }
def WordsOfUptoSaid : Prop := wordsOfUptoRow.holds Try.pinned (OpenSpec.upto wordsOfSpec)

/-- 'mapmakerlaw51.WordsCases', WHERE WHAT IT READS IS OF BULK AT MOST 1048576: true; the input reads as it did. -/
def wordsCasesUptoRow : OpenClaim := { program := "ytfmanlgfinlekaa", sum := "6b70ff68ad98840cc7152e1e79ad3f873fe0a1f07836ba04c7c4e926823f0405", func := "mapmaker/mapmakerlaw51.WordsCases", spec := "wordsCases", apart := false, narrowed := true }
def WordsCasesUptoSaid : Prop := wordsCasesUptoRow.holds Try.pinned (OpenSpec.upto wordsCasesSpec)

/-- 'mapmakerlaw51.WordsParts', WHERE WHAT IT READS IS OF BULK AT MOST 1048576: true; the input reads as it did. -/
def wordsPartsUptoRow : OpenClaim := { program := "ytfmanlgfinlekaa", sum := "6b70ff68ad98840cc7152e1e79ad3f873fe0a1f07836ba04c7c4e926823f0405", func := "mapmaker/mapmakerlaw51.WordsParts", spec := "wordsParts", apart := false, narrowed := true }
def WordsPartsUptoSaid : Prop := wordsPartsUptoRow.holds Try.pinned (OpenSpec.upto wordsPartsSpec)

/-- 'mapmakerlaw51.WordsAgain', WHERE WHAT IT READS IS OF BULK AT MOST 1048576: true; the input reads as it did. -/
def wordsAgainUptoRow : OpenClaim := { program := "ytfmanlgfinlekaa", sum := "6b70ff68ad98840cc7152e1e79ad3f873fe0a1f07836ba04c7c4e926823f0405", func := "mapmaker/mapmakerlaw51.WordsAgain", spec := "wordsAgain", apart := false, narrowed := true }
def WordsAgainUptoSaid : Prop := wordsAgainUptoRow.holds Try.pinned (OpenSpec.upto wordsAgainSpec)

end Rows
end Go.Proofs.Ytfmanlgfinlekaa
