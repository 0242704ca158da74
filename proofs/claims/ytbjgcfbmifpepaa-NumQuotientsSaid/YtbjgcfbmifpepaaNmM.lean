/- MulDiv: the floor of a product by a divisor. -/
import Derived.Test.YtbjgcfbmifpepaaNmP
import Derived.Test.YtbjgcfbmifpepaaNmV
import Derived.Test.YtbjgcfbmifpepaaPAllx12
namespace Go.Proofs.Ytbjgcfbmifpepaa.Nm
open Go.RowKit Go.Proofs.Ytbjgcfbmifpepaa.PAll Go.Proofs.YtbjgcfbmifpepaaW.PrintWords Go.Proofs.YtbjgcfbmifpepaaW.PrintLast Go.Proofs.YtbjgcfbmifpepaaW.PrintMore Go.Proofs.Ytbjgcfbmifpepaa.Bas
set_option linter.unusedVariables false
set_option linter.unusedSimpArgs false

/-- MulDiv, plainly: of the digits and the sign of the product. -/
def mdv (a b c : Int) : Int × Bool :=
  if c ≤ 0 then (0, false)
  else if sg a b ≥ 0 then (if mm a b / c < 9223372036854775808 then (mm a b / c, true) else (0, false))
  else if mm a b % c = 0 then (if mm a b / c ≤ 9223372036854775808 then (-(mm a b / c), true) else (0, false))
  else (if mm a b / c < 9223372036854775808 then (-(mm a b / c) - 1, true) else (0, false))
theorem MulDiv_ev {a b c : Int} (ha : IsI a) (hb : IsI b) (hc : IsI c) : Ev (fun k => num_MulDiv.f k a b c) (mdv a b c) := by
  unfold IsI at hc
  refine Ev.congr (fun k => by rw [num_MulDiv.f]) (Ev.bind (product_ev ha hb) ?_)
  unfold mdv
  have n0 := mm_nn ha hb
  have sb := sg_bd a b
  have wc : 0 ≤ c → IntKind.u64.wrap c = c := fun h => by rw [IntKind.wrap_u64]; omega
  unfold prd
  simp only []
  generalize sg a b = S at *
  generalize mm a b = P at *
  by_cases c1 : c ≤ 0
  · rw [if_pos c1]
    exact Ev_pos c1 (Ev_round (fun k => by rw [num_MulDiv.j0]) (Ev_pos rfl (Ev.now _)))
  · rw [if_neg c1]
    refine Ev_neg c1 ?_
    rw [wc (by omega)]
    have m := Int.mul_ediv_add_emod P c
    have m0 := Int.emod_nonneg P (show c ≠ 0 by omega)
    have m1 := Int.emod_lt_of_pos P (show 0 < c by omega)
    have q0 := Int.ediv_nonneg n0 (show 0 ≤ c by omega)
    by_cases c2 : P / 18446744073709551616 ≥ c
    · refine Ev_round (fun k => by rw [num_MulDiv.j0]) (Ev_pos (by simpa using c2) (Ev_const ?_))
      have big : 18446744073709551616 ≤ P / c := by
        rw [Int.le_ediv_iff_mul_le (by omega)]
        omega
      rw [if_neg (show ¬ P / c < 9223372036854775808 by omega), if_neg (show ¬ P / c ≤ 9223372036854775808 by omega)]
      repeat' split
      all_goals first | rfl | (exfalso; omega)
    · refine Ev_round (fun k => by rw [num_MulDiv.j0]) (Ev_neg (by simpa using c2) ?_)
      rw [wc (by omega)]
      have dv := Div64_ev (hi := P / 18446744073709551616) (lo := P % 18446744073709551616) (y := c) (by omega) (by omega) (by omega) (by omega) (by omega)
      have eP : P / 18446744073709551616 * 18446744073709551616 + P % 18446744073709551616 = P := by omega
      rw [eP] at dv
      have qs : P / c < 18446744073709551616 := Int.ediv_lt_of_lt_mul (by omega) (by omega)
      refine Ev.bind dv ?_
      simp only []
      generalize P / c = Q at *
      generalize P % c = R at *
      have j2 : ∀ (b : Bool) (V : Int × Bool), (b = true → (-Q, true) = V) → (b = false → (if S < 0 then (if R > 0 then (if Q < 9223372036854775808 then (-Q - 1, true) else (0, false)) else (0, false)) else (0, false)) = V) → (b = true → Q ≤ 9223372036854775808) → Ev (fun k => num_MulDiv.j2 k S Q R b) V := by
        intro b V h1 h2 h3
        refine Ev_round (fun k => by rw [num_MulDiv.j2]) ?_
        have w1 : Q ≤ 9223372036854775808 → wrap64 (IntKind.u64.wrap (-Q)) = -Q := by
          intro h
          rw [wrap64, IntKind.wrap_u64]
          omega
        have w2 : Q < 9223372036854775808 → wrap64 (IntKind.u64.wrap (IntKind.u64.wrap (-Q) - 1)) = -Q - 1 := by
          intro h
          rw [wrap64, IntKind.wrap_u64, IntKind.wrap_u64]
          omega
        by_cases hb : b = true
        · refine Ev_pos hb (Ev_const ?_)
          rw [w1 (h3 hb), h1 hb]
        · refine Ev_neg hb (Ev_const ?_)
          rw [← h2 (by simpa using hb)]
          repeat' split
          all_goals first | rfl | (rw [w2 (by omega)])
      have j1 : ∀ b : Bool, (b = true ↔ (S ≥ 0 ∧ Q < 9223372036854775808)) → Ev (fun k => num_MulDiv.j1 k S Q R b) (if S ≥ 0 then (if Q < 9223372036854775808 then (Q, true) else (0, false)) else if R = 0 then (if Q ≤ 9223372036854775808 then (-Q, true) else (0, false)) else (if Q < 9223372036854775808 then (-Q - 1, true) else (0, false))) := by
        intro b hb
        refine Ev_round (fun k => by rw [num_MulDiv.j1]) ?_
        by_cases h : S ≥ 0 ∧ Q < 9223372036854775808
        · refine Ev_pos (hb.2 h) (Ev_const ?_)
          rw [if_pos h.1, if_pos h.2, wrap_in ⟨by omega, by omega⟩]
        · refine Ev_neg (fun e => h (hb.1 e)) ?_
          by_cases s0 : S < 0
          · refine Ev_pos s0 ?_
            rw [if_neg (show ¬ S ≥ 0 by omega)]
            by_cases r0 : R = 0
            · refine Ev_pos r0 (j2 _ _ (fun e => ?_) (fun e => ?_) (fun e => by simpa using e))
              · rw [if_pos r0, if_pos (by simpa using e)]
              · rw [if_pos r0, if_neg (show ¬ Q ≤ 9223372036854775808 by simpa using e), if_pos s0, if_neg (show ¬ R > 0 by omega)]
            · refine Ev_neg r0 (j2 _ _ (fun e => by simp at e) (fun e => ?_) (fun e => by simp at e))
              rw [if_neg r0, if_pos s0, if_pos (show R > 0 by omega)]
          · refine Ev_neg s0 (j2 _ _ (fun e => by simp at e) (fun e => ?_) (fun e => by simp at e))
            rw [if_neg s0, if_pos (show S ≥ 0 by omega), if_neg (show ¬ Q < 9223372036854775808 by omega)]
      by_cases s0 : S ≥ 0
      · exact Ev_pos s0 (j1 _ (by simp; omega))
      · exact Ev_neg s0 (j1 _ (by simp; omega))
/-- Where the exact floor is an int, MulDiv tells it. -/
theorem mdv_eq {a b c : Int} (ha : IsI a) (hb : IsI b) (hc : 0 < c) : mdv a b c = if -9223372036854775808 ≤ a * b / c ∧ a * b / c ≤ 9223372036854775807 then (a * b / c, true) else (0, false) := by
  unfold mdv
  rw [if_neg (by omega)]
  have n0 := mm_nn ha hb
  have q0 := Int.ediv_nonneg n0 (show 0 ≤ c by omega)
  have pm : (sg a b ≥ 0 → a * b = mm a b) ∧ (¬ sg a b ≥ 0 → a * b = -mm a b) := by
    unfold sg mm mag
    by_cases h1 : a < 0 <;> by_cases h2 : b < 0 <;> by_cases h0 : a = 0 ∨ b = 0 <;> simp [h1, h2, h0, Int.neg_mul, Int.mul_neg] <;> (intros; rcases h0 with h | h <;> simp [h])
  by_cases s : sg a b ≥ 0
  · rw [if_pos s, pm.1 s]
    by_cases q : mm a b / c < 9223372036854775808
    · rw [if_pos q, if_pos ⟨by omega, by omega⟩]
    · rw [if_neg q, if_neg (fun h => by obtain ⟨_, h⟩ := h; omega)]
  · rw [if_neg s, pm.2 s]
    have m := Int.mul_ediv_add_emod (mm a b) c
    have m0 := Int.emod_nonneg (mm a b) (show c ≠ 0 by omega)
    have m1 := Int.emod_lt_of_pos (mm a b) (show 0 < c by omega)
    generalize mm a b / c = Q at *
    generalize mm a b % c = R at *
    by_cases r : R = 0
    · have e : -mm a b / c = -Q := by
        rw [← m, r, Int.add_zero, ← Int.mul_neg, Int.mul_ediv_cancel_left _ (by omega)]
      rw [if_pos r, e]
      by_cases q : Q ≤ 9223372036854775808
      · rw [if_pos q, if_pos ⟨by omega, by omega⟩]
      · rw [if_neg q, if_neg (fun h => by obtain ⟨h, _⟩ := h; omega)]
    · have e : -mm a b / c = -Q - 1 := by
        have : -mm a b = (c - R) + c * (-Q - 1) := by
          rw [← m, Int.mul_sub, Int.mul_neg]
          omega
        rw [this, Int.add_mul_ediv_left _ _ (by omega), Int.ediv_eq_zero_of_lt (by omega) (by omega)]
        omega
      rw [if_neg r, e]
      by_cases q : Q < 9223372036854775808
      · rw [if_pos q, if_pos ⟨by omega, by omega⟩]
      · rw [if_neg q, if_neg (fun h => by obtain ⟨h, _⟩ := h; omega)]
end Go.Proofs.Ytbjgcfbmifpepaa.Nm
