/- FloorDiv: the quotient rounded toward minus infinity. -/
import Derived.Test.YtbjgcfbmifpepaaBas
import Derived.Test.YtbjgcfbmifpepaaPAllx3
namespace Go.Proofs.Ytbjgcfbmifpepaa.Nm
open Go.RowKit Go.Proofs.Ytbjgcfbmifpepaa.PAll Go.Proofs.YtbjgcfbmifpepaaW.PrintWords Go.Proofs.YtbjgcfbmifpepaaW.PrintLast Go.Proofs.YtbjgcfbmifpepaaW.PrintMore Go.Proofs.Ytbjgcfbmifpepaa.Bas
set_option linter.unusedVariables false
set_option linter.unusedSimpArgs false

theorem floor_eq (a : Int) {b : Int} (hb : 0 < b) : (if a.tmod b < 0 then a.tdiv b - 1 else a.tdiv b) = a / b := by
  rcases Int.le_total 0 a with h | h
  · rw [tmod_nn h, tdiv_nn h, if_neg (by have := Int.emod_nonneg a (show b ≠ 0 by omega); omega)]
  · obtain ⟨n, rfl⟩ : ∃ n, a = -n := ⟨-a, by omega⟩
    have hn : 0 ≤ n := by omega
    rw [Int.neg_tmod, Int.neg_tdiv, tmod_nn hn, tdiv_nn hn]
    have h1 := Int.emod_nonneg n (show b ≠ 0 by omega)
    have h2 := Int.emod_lt_of_pos n hb
    have h3 := Int.mul_ediv_add_emod n b
    by_cases c : n % b = 0
    · rw [if_neg (by omega)]
      exact (((Int.ediv_emod_unique hb).2 ⟨by rw [Int.mul_neg]; omega, Int.le_refl 0, hb⟩ : -n / b = -(n / b) ∧ -n % b = 0).1).symm
    · rw [if_pos (by omega)]
      refine (((Int.ediv_emod_unique hb).2 ⟨?_, ?_, ?_⟩ : -n / b = -(n / b) - 1 ∧ -n % b = b - n % b).1).symm
      · rw [Int.mul_sub, Int.mul_neg]
        omega
      · omega
      · omega
theorem div_bd {a b : Int} (hb : 0 < b) : (0 ≤ a → 0 ≤ a / b ∧ a / b ≤ a) ∧ (a < 0 → a ≤ a / b ∧ a / b ≤ -1) := by
  refine ⟨fun h => ⟨Int.ediv_nonneg h (by omega), Int.ediv_le_self b h⟩, fun h => ⟨?_, ?_⟩⟩
  · refine Int.le_ediv_of_mul_le hb ?_
    have := Int.mul_le_mul_of_nonneg_left (show 1 ≤ b by omega) (show 0 ≤ -a by omega)
    rw [Int.neg_mul, Int.neg_mul] at this
    omega
  · have := Int.ediv_neg_of_neg_of_pos h hb
    omega
theorem div_isI {a b : Int} (ha : IsI a) (hb : 0 < b) : IsI (a / b) := by
  obtain ⟨z1, z2⟩ := ha
  obtain ⟨d1, d2⟩ := div_bd (a := a) hb
  rcases Int.le_total 0 a with h | h
  · have := d1 h
    exact ⟨by omega, by omega⟩
  · by_cases hz : a = 0
    · subst hz
      exact ⟨by simp, by simp⟩
    · have := d2 (by omega)
      exact ⟨by omega, by omega⟩
theorem FloorDiv_eq {a b : Int} (ha : IsI a) (hb : 0 < b) : num_FloorDiv.f a b = some (a / b) := by
  unfold num_FloorDiv.f
  rw [if_neg (by omega), if_neg (by omega)]
  have hf := floor_eq a hb
  obtain ⟨d1, d2⟩ := div_bd (a := a) hb
  have h1 := div_isI ha hb
  have h2 := h1
  unfold IsI at h2
  by_cases c : a.tmod b < 0
  · rw [if_pos c] at hf ⊢
    have hneg : a / b ≤ -1 := by
      rcases Int.le_total 0 a with h | h
      · rw [tmod_nn h] at c
        have := Int.emod_nonneg a (show b ≠ 0 by omega)
        omega
      · by_cases hz : a = 0
        · subst hz
          simp at c
        · exact (d2 (by omega)).2
    rw [wrap_in (x := a.tdiv b) ⟨by omega, by omega⟩, hf, wrap_in h1]
  · rw [if_neg c] at hf ⊢
    rw [hf, wrap_in h1]
theorem FloorDiv_no {a b : Int} (hb : b ≤ 0) : num_FloorDiv.f a b = some 0 := if_pos hb
end Go.Proofs.Ytbjgcfbmifpepaa.Nm
