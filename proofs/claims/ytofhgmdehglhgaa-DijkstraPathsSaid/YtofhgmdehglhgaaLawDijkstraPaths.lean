-- Written by a program of this session (wip/tools), over the words that print.sh lays.
import Derived.Test.YtofhgmdehglhgaaRows
import Derived.Test.YtofhgmdehglhgaaOpn
import Derived.Test.YtofhgmdehglhgaaPAllx18
import Derived.Test.YtofhgmdehglhgaaPureDijkstraPaths
import Derived.WalkKit
import Derived.ProofKit
import Derived.OpenShut
import Derived.ShutString
import Derived.ChangeOld
import Derived.Below
import Derived.SizedLaws
import Derived.WideShapes
namespace Go.Proofs.Ytofhgmdehglhgaa.dijkstraPaths
open Go.ChangeShapes Go.WideShapes Go.ChangeAt Go.RowKit Go.Proofs.Ytofhgmdehglhgaa.PAll Go.Proofs.YtofhgmdehglhgaaW.PrintWords Go.Proofs.YtofhgmdehglhgaaW.PrintLast
open Go.ChangeMaps (open_string shut_string)
set_option linter.unusedVariables false
theorem own : ownKnob Try.prog.godebug = none := by kernel_rfl
theorem laidOut : laidOutB Try.prog = true := by kernel_rfl
theorem o3 : Opn.Opens Try.prog 3 (Kd.int .i64) (fun x => (Lit.int .i64 x).wf = true) := Opn.opens_int Try.underlying3
theorem o40 : Opn.Opens Try.prog 40 k40 (fun x => (Lit.int .i64 x.f0).wf = true ∧ (Lit.int .i64 x.f1).wf = true) := Opn.opens_struct Try.underlying40 (by kernel_rfl) (by kernel_rfl) (Opn.opens_cons (by kernel_rfl) o3 (Opn.opens_one (by kernel_rfl) o3)) (fun x : S40 => (x.f0, x.f1)) (fun p => ⟨p.1, p.2⟩) (fun _ => rfl)
theorem o22 : Opn.Opens Try.prog 22 (Kd.slice 40 k40) (fun x => x.length ≤ maxLen ∧ ∀ x_ ∈ x, (Lit.int .i64 x_.f0).wf = true ∧ (Lit.int .i64 x_.f1).wf = true) := Opn.opens_slice Try.underlying22 (by kernel_rfl) o40
theorem o24 : Opn.Opens Try.prog 24 k24 (fun x => (Lit.int .i64 x.f0).wf = true ∧ (x.f1.length ≤ maxLen ∧ ∀ x_ ∈ x.f1, (Lit.int .i64 x_.f0).wf = true ∧ (Lit.int .i64 x_.f1).wf = true)) := Opn.opens_struct Try.underlying24 (by kernel_rfl) (by kernel_rfl) (Opn.opens_cons (by kernel_rfl) o3 (Opn.opens_one (by kernel_rfl) o22)) (fun x : S24 => (x.f0, x.f1)) (fun p => ⟨p.1, p.2⟩) (fun _ => rfl)
theorem o25 : Opn.Opens Try.prog 25 (Kd.slice 3 (Kd.int .i64)) (fun x => x.length ≤ maxLen ∧ ∀ x_ ∈ x, (Lit.int .i64 x_).wf = true) := Opn.opens_slice Try.underlying25 (by kernel_rfl) o3
set_option maxRecDepth 100000 in
theorem lifted (os : Os) (started : os.Started) (H : Type) (enc : TypeId × Value → H) :
    ReturnsInHanded {} Try.checked os 3 .any (Rows.dijkstraPathsSpec.pre6 enc Try.prog Try.f3 Rows.dijkstraPathsRow.domain false) (Rows.dijkstraPathsSpec.post enc Try.prog Try.f3 false true false false) := by
  refine returnsInHanded_of_change_sized (C := Try.checked) own started (by kernel_rfl) Try.func3
    (ChangeSpec.witness6 (enc := enc) (C := Try.checked) false ⟨#[], #[.agg #[.int .i64 0, .slice none 0 0], .slice none 0 0, .int .i64 0, .int .i64 0], []⟩ 8 (by kernel_rfl) (by kernel_rfl) (by kernel_rfl) (by kernel_rfl)) ?_
  intro W base args ds gs before hval0 hW hcnd hsz0 _
  have hval : ∀ (j : Nat) t v, Try.f3.params[j]? = some t → args[j]? = some v → Value.okWide Try.prog W .any base t v := hval0
  have hW' := hW
  obtain ⟨p, q, hA0, hV, rfl, hfz, hnd⟩ := hW
  have hA : DataW.TrodAll enc Try.prog W 0 (fun _ => true) true Try.f3.params.toList args.toList ds p := hA0
  rw [Try.params3] at hA hval
  obtain ⟨v0, vs0, d0, ds0, p0, q0, hargs, rfl, rfl, h0, r0⟩ := trodAll_cons hA
  obtain ⟨v1, vs1, d1, ds1, p1, q1, rfl, rfl, rfl, h1, r1⟩ := trodAll_cons r0
  obtain ⟨v2, vs2, d2, ds2, p2, q2, rfl, rfl, rfl, h2, r2⟩ := trodAll_cons r1
  obtain ⟨v3, vs3, d3, ds3, p3, q3, rfl, rfl, rfl, h3, r3⟩ := trodAll_cons r2
  obtain ⟨rfl, rfl, rfl⟩ := trodAll_nil r3
  obtain rfl : args = #[v0, v1, v2, v3] := by cases args; simp_all
  obtain ⟨rfl, rfl⟩ := trodVars_none hV
  have k0 := h0
  have lt0 := Opn.lt_of k0
  obtain ⟨cs0, rfl, _⟩ := okWide_struct Try.underlying24 (hval 0 24 v0 rfl rfl)
  obtain ⟨x0, hK0, hG0⟩ := Opn.use o24 h0
  obtain ⟨A0_1, c0_1, e0, hc0_1, hr0_1⟩ := k24_open hK0
  obtain rfl := Opn.agg_eq e0
  have k1 := h1
  have lt1 := Opn.lt_of k1
  obtain ⟨aa1, len1, cap1, rfl⟩ := okWide_slice Try.underlying25 (hval 1 25 v1 rfl rfl)
  obtain ⟨x1, hK1, hG1⟩ := Opn.use o25 h1
  obtain ⟨A1, c1, e1, hc1, hr1⟩ := hK1
  simp only [Value.cells, List.cons.injEq, Value.slice.injEq, and_true] at e1
  obtain ⟨rfl, rfl, rfl⟩ := e1
  obtain ⟨a2, rfl, rfl, rfl, w2⟩ := open_int Try.underlying3 (hval 2 3 v2 rfl rfl) h2
  obtain ⟨a3, rfl, rfl, rfl, w3⟩ := open_int Try.underlying3 (hval 3 3 v3 rfl rfl) h3
  clear hA0 hval0 hsz0
  obtain ⟨k, h⟩ := Pure.DijkstraPaths x0.f0 x0.f1 x1 a2 a3 hG0 hG1 w2 w3
  refine (mapmakerlaw38_DijkstraPaths.calls k x0.f0 _ _ x0.f1 _ _ x1 a2 a3 true W hr0_1 hc0_1 hr1 hc1 h).mono fun e W' ⟨he, bel0⟩ => ?_
  have bel : Below W.heap.size W W' := bel0
  subst he
  exact ⟨_, rfl, _, _, _, [], _, [], hW', trodAll_mk1 (shut_bool Try.underlying4 _), (trodAll_cons_mk (Below.trod laidOut (by kernel_rfl) (of_decide_eq_true (by kernel_rfl)) k0 bel lt0) (trodAll_cons_mk (Below.trod laidOut (by kernel_rfl) (of_decide_eq_true (by kernel_rfl)) k1 bel lt1) (trodAll_cons_mk (shut_int Try.underlying3 w2) (trodAll_cons_mk (shut_int Try.underlying3 w3) trodAll_mk0)))), rfl, bel.frame _, fun h => by cases h⟩
theorem over : Rows.dijkstraPathsRow.holds Try.pinned (OpenSpec.ofChange Rows.dijkstraPathsSpec) :=
  OpenClaim.holds_of_wide 3 Try.f3 rfl rfl rfl rfl rfl rfl rfl ⟨rfl, rfl, rfl, rfl, rfl⟩ rfl rfl rfl rfl rfl (by kernel_rfl) Try.func3 (by kernel_rfl)
    (of_decide_eq_true (by kernel_rfl)) (by unfold Func.isWrapper; first | (rw [if_pos (by decide +kernel)]; kernel_rfl) | (rw [if_neg (by decide +kernel)]; exact ⟨rfl, rfl⟩))
    (fun os started H enc _ => lifted os started H enc)
theorem proved : Rows.DijkstraPathsSaid := over
#print axioms proved
end Go.Proofs.Ytofhgmdehglhgaa.dijkstraPaths
namespace Go.Proofs.Ytofhgmdehglhgaa
/-- The row, under a short name, for the claim. -/
theorem dijkstraPaths_holds : Rows.DijkstraPathsSaid := dijkstraPaths.proved
end Go.Proofs.Ytofhgmdehglhgaa
