-- Written by a program of this session (wip/tools), over the words that print.sh lays.
import Derived.Test.YtpjeomjingocbaaRows
import Derived.Test.YtpjeomjingocbaaOpn
import Derived.Test.YtpjeomjingocbaaPAllx29
import Derived.Test.YtpjeomjingocbaaPureTrafficChanges
import Derived.WalkKit
import Derived.ProofKit
import Derived.OpenShut
import Derived.ShutString
import Derived.ChangeOld
import Derived.Below
import Derived.SizedLaws
import Derived.WideShapes
namespace Go.Proofs.Ytpjeomjingocbaa.trafficChanges
open Go.ChangeShapes Go.WideShapes Go.ChangeAt Go.RowKit Go.Proofs.Ytpjeomjingocbaa.PAll Go.Proofs.YtpjeomjingocbaaW.PrintWords Go.Proofs.YtpjeomjingocbaaW.PrintLast
open Go.ChangeMaps (open_string shut_string)
set_option linter.unusedVariables false
theorem own : ownKnob Try.prog.godebug = none := by kernel_rfl
theorem laidOut : laidOutB Try.prog = true := by kernel_rfl
theorem o3 : Opn.Opens Try.prog 3 (Kd.int .i64) (fun x => (Lit.int .i64 x).wf = true) := Opn.opens_int Try.underlying3
theorem o28 : Opn.Opens Try.prog 28 (Kd.slice 3 (Kd.int .i64)) (fun x => x.length ≤ maxLen ∧ ∀ x_ ∈ x, (Lit.int .i64 x_).wf = true) := Opn.opens_slice Try.underlying28 (by kernel_rfl) o3
theorem o64 : Opn.Opens Try.prog 64 k64 (fun x => (Lit.int .i64 x.f0).wf = true ∧ (Lit.int .i64 x.f1).wf = true) := Opn.opens_struct Try.underlying64 (by kernel_rfl) (by kernel_rfl) (Opn.opens_cons (by kernel_rfl) o3 (Opn.opens_one (by kernel_rfl) o3)) (fun x : S64 => (x.f0, x.f1)) (fun p => ⟨p.1, p.2⟩) (fun _ => rfl)
theorem o29 : Opn.Opens Try.prog 29 (Kd.slice 64 k64) (fun x => x.length ≤ maxLen ∧ ∀ x_ ∈ x, (Lit.int .i64 x_.f0).wf = true ∧ (Lit.int .i64 x_.f1).wf = true) := Opn.opens_slice Try.underlying29 (by kernel_rfl) o64
theorem o75 : Opn.Opens Try.prog 75 k75 (fun x => (Lit.int .i64 x.f0).wf = true ∧ (Lit.int .i64 x.f1).wf = true) := Opn.opens_struct Try.underlying75 (by kernel_rfl) (by kernel_rfl) (Opn.opens_cons (by kernel_rfl) o3 (Opn.opens_one (by kernel_rfl) o3)) (fun x : S75 => (x.f0, x.f1)) (fun p => ⟨p.1, p.2⟩) (fun _ => rfl)
theorem o44 : Opn.Opens Try.prog 44 (Kd.slice 75 k75) (fun x => x.length ≤ maxLen ∧ ∀ x_ ∈ x, (Lit.int .i64 x_.f0).wf = true ∧ (Lit.int .i64 x_.f1).wf = true) := Opn.opens_slice Try.underlying44 (by kernel_rfl) o75
theorem o46 : Opn.Opens Try.prog 46 k46 (fun x => (x.f0.length ≤ maxLen ∧ ∀ x_ ∈ x.f0, (Lit.int .i64 x_.f0).wf = true ∧ (Lit.int .i64 x_.f1).wf = true) ∧ (Lit.int .i64 x.f1).wf = true ∧ (Lit.int .i64 x.f2).wf = true) := Opn.opens_struct Try.underlying46 (by kernel_rfl) (by kernel_rfl) (Opn.opens_cons (by kernel_rfl) o44 (Opn.opens_cons (by kernel_rfl) o3 (Opn.opens_one (by kernel_rfl) o3))) (fun x : S46 => (x.f0, x.f1, x.f2)) (fun p => ⟨p.1, p.2.1, p.2.2⟩) (fun _ => rfl)
theorem o48 : Opn.Opens Try.prog 48 k48 (fun x => (Lit.int .i64 x.f0).wf = true ∧ (Lit.int .i64 x.f1).wf = true ∧ (Lit.int .i64 x.f2).wf = true ∧ (Lit.int .i64 x.f3).wf = true ∧ (Lit.int .i64 x.f4).wf = true ∧ ((x.f5.f0.length ≤ maxLen ∧ ∀ x_ ∈ x.f5.f0, (Lit.int .i64 x_.f0).wf = true ∧ (Lit.int .i64 x_.f1).wf = true) ∧ (Lit.int .i64 x.f5.f1).wf = true ∧ (Lit.int .i64 x.f5.f2).wf = true)) := Opn.opens_struct Try.underlying48 (by kernel_rfl) (by kernel_rfl) (Opn.opens_cons (by kernel_rfl) o3 (Opn.opens_cons (by kernel_rfl) o3 (Opn.opens_cons (by kernel_rfl) o3 (Opn.opens_cons (by kernel_rfl) o3 (Opn.opens_cons (by kernel_rfl) o3 (Opn.opens_one (by kernel_rfl) o46)))))) (fun x : S48 => (x.f0, x.f1, x.f2, x.f3, x.f4, x.f5)) (fun p => ⟨p.1, p.2.1, p.2.2.1, p.2.2.2.1, p.2.2.2.2.1, p.2.2.2.2.2⟩) (fun _ => rfl)
theorem o30 : Opn.Opens Try.prog 30 (Kd.slice 48 k48) (fun x => x.length ≤ maxLen ∧ ∀ x_ ∈ x, (Lit.int .i64 x_.f0).wf = true ∧ (Lit.int .i64 x_.f1).wf = true ∧ (Lit.int .i64 x_.f2).wf = true ∧ (Lit.int .i64 x_.f3).wf = true ∧ (Lit.int .i64 x_.f4).wf = true ∧ ((x_.f5.f0.length ≤ maxLen ∧ ∀ x1_ ∈ x_.f5.f0, (Lit.int .i64 x1_.f0).wf = true ∧ (Lit.int .i64 x1_.f1).wf = true) ∧ (Lit.int .i64 x_.f5.f1).wf = true ∧ (Lit.int .i64 x_.f5.f2).wf = true)) := Opn.opens_slice Try.underlying30 (by kernel_rfl) o48
theorem o32 : Opn.Opens Try.prog 32 k32 (fun x => (x.f0.length ≤ maxLen ∧ ∀ x_ ∈ x.f0, (Lit.int .i64 x_).wf = true) ∧ (x.f1.length ≤ maxLen ∧ ∀ x_ ∈ x.f1, (Lit.int .i64 x_.f0).wf = true ∧ (Lit.int .i64 x_.f1).wf = true) ∧ (x.f2.length ≤ maxLen ∧ ∀ x_ ∈ x.f2, (Lit.int .i64 x_.f0).wf = true ∧ (Lit.int .i64 x_.f1).wf = true ∧ (Lit.int .i64 x_.f2).wf = true ∧ (Lit.int .i64 x_.f3).wf = true ∧ (Lit.int .i64 x_.f4).wf = true ∧ ((x_.f5.f0.length ≤ maxLen ∧ ∀ x1_ ∈ x_.f5.f0, (Lit.int .i64 x1_.f0).wf = true ∧ (Lit.int .i64 x1_.f1).wf = true) ∧ (Lit.int .i64 x_.f5.f1).wf = true ∧ (Lit.int .i64 x_.f5.f2).wf = true))) := Opn.opens_struct Try.underlying32 (by kernel_rfl) (by kernel_rfl) (Opn.opens_cons (by kernel_rfl) o28 (Opn.opens_cons (by kernel_rfl) o29 (Opn.opens_one (by kernel_rfl) o30))) (fun x : S32 => (x.f0, x.f1, x.f2)) (fun p => ⟨p.1, p.2.1, p.2.2⟩) (fun _ => rfl)
theorem o43 : Opn.Opens Try.prog 43 k43 (fun x => (Lit.int .i64 x.f0).wf = true ∧ (Lit.int .i64 x.f1).wf = true ∧ (Lit.int .i64 x.f2).wf = true ∧ (Lit.int .i64 x.f3).wf = true) := Opn.opens_struct Try.underlying43 (by kernel_rfl) (by kernel_rfl) (Opn.opens_cons (by kernel_rfl) o3 (Opn.opens_cons (by kernel_rfl) o3 (Opn.opens_cons (by kernel_rfl) o3 (Opn.opens_one (by kernel_rfl) o3)))) (fun x : S43 => (x.f0, x.f1, x.f2, x.f3)) (fun p => ⟨p.1, p.2.1, p.2.2.1, p.2.2.2⟩) (fun _ => rfl)
theorem o22 : Opn.Opens Try.prog 22 (Kd.slice 43 k43) (fun x => x.length ≤ maxLen ∧ ∀ x_ ∈ x, (Lit.int .i64 x_.f0).wf = true ∧ (Lit.int .i64 x_.f1).wf = true ∧ (Lit.int .i64 x_.f2).wf = true ∧ (Lit.int .i64 x_.f3).wf = true) := Opn.opens_slice Try.underlying22 (by kernel_rfl) o43
theorem o41 : Opn.Opens Try.prog 41 k41 (fun x => (x.f0.length ≤ maxLen ∧ ∀ x_ ∈ x.f0, (Lit.int .i64 x_.f0).wf = true ∧ (Lit.int .i64 x_.f1).wf = true ∧ (Lit.int .i64 x_.f2).wf = true ∧ (Lit.int .i64 x_.f3).wf = true) ∧ (x.f1.length ≤ maxLen ∧ ∀ x_ ∈ x.f1, (Lit.int .i64 x_.f0).wf = true ∧ (Lit.int .i64 x_.f1).wf = true ∧ (Lit.int .i64 x_.f2).wf = true ∧ (Lit.int .i64 x_.f3).wf = true) ∧ (Lit.int .i64 x.f2).wf = true) := Opn.opens_struct Try.underlying41 (by kernel_rfl) (by kernel_rfl) (Opn.opens_cons (by kernel_rfl) o22 (Opn.opens_cons (by kernel_rfl) o22 (Opn.opens_one (by kernel_rfl) o3))) (fun x : S41 => (x.f0, x.f1, x.f2)) (fun p => ⟨p.1, p.2.1, p.2.2⟩) (fun _ => rfl)
set_option maxRecDepth 100000 in
theorem lifted (os : Os) (started : os.Started) (H : Type) (enc : TypeId × Value → H) :
    ReturnsInHanded {} Try.checked os 6 .any (Rows.trafficChangesSpec.pre6 enc Try.prog Try.f6 Rows.trafficChangesRow.domain false) (Rows.trafficChangesSpec.post enc Try.prog Try.f6 false true false false) := by
  refine returnsInHanded_of_change_sized (C := Try.checked) own started (by kernel_rfl) Try.func6
    (ChangeSpec.witness6 (enc := enc) (C := Try.checked) false ⟨#[], #[.agg #[.slice none 0 0, .slice none 0 0, .slice none 0 0], .agg #[.slice none 0 0, .slice none 0 0, .int .i64 0]], []⟩ 8 (by kernel_rfl) (by kernel_rfl) (by kernel_rfl) (by kernel_rfl)) ?_
  intro W base args ds gs before hval0 hW hcnd hsz0 _
  have hval : ∀ (j : Nat) t v, Try.f6.params[j]? = some t → args[j]? = some v → Value.okWide Try.prog W .any base t v := hval0
  have hW' := hW
  obtain ⟨p, q, hA0, hV, rfl, hfz, hnd⟩ := hW
  have hA : DataW.TrodAll enc Try.prog W 0 (fun _ => true) true Try.f6.params.toList args.toList ds p := hA0
  rw [Try.params6] at hA hval
  obtain ⟨v0, vs0, d0, ds0, p0, q0, hargs, rfl, rfl, h0, r0⟩ := trodAll_cons hA
  obtain ⟨v1, vs1, d1, ds1, p1, q1, rfl, rfl, rfl, h1, r1⟩ := trodAll_cons r0
  obtain ⟨rfl, rfl, rfl⟩ := trodAll_nil r1
  obtain rfl : args = #[v0, v1] := by cases args; simp_all
  obtain ⟨rfl, rfl⟩ := trodVars_none hV
  have k0 := h0
  have lt0 := Opn.lt_of k0
  obtain ⟨cs0, rfl, _⟩ := okWide_struct Try.underlying32 (hval 0 32 v0 rfl rfl)
  obtain ⟨x0, hK0, hG0⟩ := Opn.use o32 h0
  obtain ⟨A0_0, c0_0, A0_1, c0_1, A0_2, c0_2, e0, hc0_0, hr0_0, hc0_1, hr0_1, hc0_2, hr0_2⟩ := k32_open hK0
  obtain rfl := Opn.agg_eq e0
  have k1 := h1
  have lt1 := Opn.lt_of k1
  obtain ⟨cs1, rfl, _⟩ := okWide_struct Try.underlying41 (hval 1 41 v1 rfl rfl)
  obtain ⟨x1, hK1, hG1⟩ := Opn.use o41 h1
  obtain ⟨A1_0, c1_0, A1_1, c1_1, e1, hc1_0, hr1_0, hc1_1, hr1_1⟩ := k41_open hK1
  obtain rfl := Opn.agg_eq e1
  clear hA0 hval0 hsz0
  obtain ⟨k, h⟩ := Pure.TrafficChanges x0.f0 x0.f1 x0.f2 x1.f0 x1.f1 x1.f2 hG0 hG1
  refine (mapmakerlaw48_TrafficChanges.calls k _ _ x0.f0 _ _ x0.f1 _ _ x0.f2 _ _ x1.f0 _ _ x1.f1 x1.f2 true W hr0_0 hc0_0 hr0_1 hc0_1 hr0_2 hc0_2 hr1_0 hc1_0 hr1_1 hc1_1 h).mono fun e W' ⟨he, bel0⟩ => ?_
  have bel : Below W.heap.size W W' := bel0
  subst he
  exact ⟨_, rfl, _, _, _, [], _, [], hW', trodAll_mk1 (shut_bool Try.underlying4 _), (trodAll_cons_mk (Below.trod laidOut (by kernel_rfl) (of_decide_eq_true (by kernel_rfl)) k0 bel lt0) (trodAll_cons_mk (Below.trod laidOut (by kernel_rfl) (of_decide_eq_true (by kernel_rfl)) k1 bel lt1) trodAll_mk0)), rfl, bel.frame _, fun h => by cases h⟩
theorem over : Rows.trafficChangesRow.holds Try.pinned (OpenSpec.ofChange Rows.trafficChangesSpec) :=
  OpenClaim.holds_of_wide 6 Try.f6 rfl rfl rfl rfl rfl rfl rfl ⟨rfl, rfl, rfl, rfl, rfl⟩ rfl rfl rfl rfl rfl (by kernel_rfl) Try.func6 (by kernel_rfl)
    (of_decide_eq_true (by kernel_rfl)) (by unfold Func.isWrapper; first | (rw [if_pos (by decide +kernel)]; kernel_rfl) | (rw [if_neg (by decide +kernel)]; exact ⟨rfl, rfl⟩))
    (fun os started H enc _ => lifted os started H enc)
theorem proved : Rows.TrafficChangesSaid := over
#print axioms proved
end Go.Proofs.Ytpjeomjingocbaa.trafficChanges
namespace Go.Proofs.Ytpjeomjingocbaa
/-- The row, under a short name, for the claim. -/
theorem trafficChanges_holds : Rows.TrafficChangesSaid := trafficChanges.proved
end Go.Proofs.Ytpjeomjingocbaa
