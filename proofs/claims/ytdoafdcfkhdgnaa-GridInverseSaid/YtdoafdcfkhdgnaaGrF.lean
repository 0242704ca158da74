/- The grid: FloorDiv, Project and Center. -/
import Derived.Test.YtdoafdcfkhdgnaaGr
import Derived.Test.YtdoafdcfkhdgnaaPAllx15
import Derived.Test.YtdoafdcfkhdgnaaPAllx16
import Derived.Test.YtdoafdcfkhdgnaaPAllx32
namespace Go.Proofs.Ytdoafdcfkhdgnaa.Gr
open Go.RowKit Go.Proofs.Ytdoafdcfkhdgnaa.PAll Go.Proofs.YtdoafdcfkhdgnaaW.PrintWords Go.Proofs.YtdoafdcfkhdgnaaW.PrintLast Go.Proofs.YtdoafdcfkhdgnaaW.PrintMore Go.Proofs.Ytdoafdcfkhdgnaa.Bas
set_option linter.unusedVariables false
set_option linter.unusedSimpArgs false

theorem floor_eq (a : Int) {b : Int} (hb : 0 < b) : (if a.tmod b < 0 then a.tdiv b - 1 else a.tdiv b) = a / b := by
  rcases Int.le_total 0 a with h | h
  · rw [tmod_nn h, tdiv_nn h, if_neg (by have := Int.emod_nonneg a (show b ≠ 0 by omega); omega)]
  · obtain ⟨n, rfl⟩ : ∃ n, a = -n := ⟨-a, by omega⟩
    have hn : 0 ≤ n := by omega
    rw [Int.neg_tmod, Int.neg_tdiv, tmod_nn hn, tdiv_nn hn]
    have h1 := Int.emod_nonneg n (show b ≠ 0 by omega)
    have h2 := Int.emod_lt_of_pos n hb
    have h3 := Int.mul_ediv_add_emod n b
    by_cases c : n % b = 0
    · rw [if_neg (by omega)]
      exact (((Int.ediv_emod_unique hb).2 ⟨by rw [Int.mul_neg]; omega, Int.le_refl 0, hb⟩ : -n / b = -(n / b) ∧ -n % b = 0).1).symm
    · rw [if_pos (by omega)]
      refine (((Int.ediv_emod_unique hb).2 ⟨?_, ?_, ?_⟩ : -n / b = -(n / b) - 1 ∧ -n % b = b - n % b).1).symm
      · rw [Int.mul_sub, Int.mul_neg]
        omega
      · omega
      · omega
theorem div_bd {a b : Int} (hb : 0 < b) : (0 ≤ a → 0 ≤ a / b ∧ a / b ≤ a) ∧ (a < 0 → a ≤ a / b ∧ a / b ≤ -1) := by
  refine ⟨fun h => ⟨Int.ediv_nonneg h (by omega), Int.ediv_le_self b h⟩, fun h => ⟨?_, ?_⟩⟩
  · refine Int.le_ediv_of_mul_le hb ?_
    have := Int.mul_le_mul_of_nonneg_left (show 1 ≤ b by omega) (show 0 ≤ -a by omega)
    rw [Int.neg_mul, Int.neg_mul] at this
    omega
  · have := Int.ediv_neg_of_neg_of_pos h hb
    omega
theorem FloorDiv_eq {a b : Int} (ha : IsI a) (hb : 0 < b) : num_FloorDiv.f a b = some (a / b) := by
  unfold num_FloorDiv.f
  rw [if_neg (by omega), if_neg (by omega)]
  have hf := floor_eq a hb
  obtain ⟨d1, d2⟩ := div_bd (a := a) hb
  have h1 : -9223372036854775808 ≤ a / b ∧ a / b ≤ 9223372036854775807 := by
    obtain ⟨z1, z2⟩ := ha
    rcases Int.le_total 0 a with h | h
    · have := d1 h
      omega
    · by_cases hz : a = 0
      · subst hz
        simp
      · have := d2 (by omega)
        omega
  by_cases c : a.tmod b < 0
  · rw [if_pos c] at hf ⊢
    have hneg : a / b ≤ -1 := by
      rcases Int.le_total 0 a with h | h
      · rw [tmod_nn h] at c
        have := Int.emod_nonneg a (show b ≠ 0 by omega)
        omega
      · by_cases hz : a = 0
        · subst hz
          simp at c
        · exact (d2 (by omega)).2
    rw [wrap_in (x := a.tdiv b) ⟨by omega, by omega⟩, hf, wrap_in h1]
  · rw [if_neg c] at hf ⊢
    rw [hf, wrap_in h1]

/-- Project, plainly. -/
def proj (lon lat : Int) : Int × Int × Int := if -1800000000 ≤ lon ∧ lon ≤ 1800000000 ∧ -900000000 ≤ lat ∧ lat ≤ 900000000 then
  (min ((lon + 1800000000) * 32768 / 3600000000) 32767, min ((900000000 - lat) * 32768 / 1800000000) 32767, 0) else (0, 0, 11)
theorem Project_ev (lon lat : Int) : Ev (fun k => grid_Project.f k lon lat) (proj lon lat) := by
  refine Ev.congr (fun k => by rw [grid_Project.f]) ?_
  refine Ev.bind (Ev_const (Clamp_eq _ _ _)) ?_
  have dead : ∀ b : Bool, b = true → Ev (fun k => grid_Project.j0 k b lon lat) (0, 0, 11) := fun b hb => Ev_round (fun k => by rw [grid_Project.j0]) (Ev_pos hb (Ev.now _))
  have e1 := clamp_self (x := lon) (a := -1800000000) (c := 1800000000) (by decide)
  have e2 := clamp_self (x := lat) (a := -900000000) (c := 900000000) (by decide)
  unfold proj
  by_cases c : clamp lon (-1800000000) 1800000000 = lon
  · refine Ev_pos c (Ev.bind (Ev_const (Clamp_eq _ _ _)) ?_)
    by_cases c2 : clamp lat (-900000000) 900000000 = lat
    · have b1 := e1.1 c
      have b2 := e2.1 c2
      rw [if_pos ⟨b1.1, b1.2, b2.1, b2.2⟩]
      refine Ev_round (fun k => by rw [grid_Project.j0]) (Ev_neg (by simp [c2]) ?_)
      rw [wrap_in (x := lon + 1800000000) ⟨by omega, by omega⟩, wrap_in (x := (lon + 1800000000) * 32768) ⟨by omega, by omega⟩, wrap_in (x := 900000000 - lat) ⟨by omega, by omega⟩, wrap_in (x := (900000000 - lat) * 32768) ⟨by omega, by omega⟩]
      refine Ev.bind (Ev_const (FloorDiv_eq ⟨by omega, by omega⟩ (by decide))) (Ev.bind (Ev_const (FloorDiv_eq ⟨by omega, by omega⟩ (by decide))) ?_)
      simp only [mn_eq]
      exact Ev.now _
    · rw [if_neg (fun h => c2 (e2.2 ⟨h.2.2.1, h.2.2.2⟩))]
      exact dead _ (by simpa using c2)
  · rw [if_neg (fun h => c (e1.2 ⟨h.1, h.2.1⟩))]
    exact Ev_neg c (dead _ rfl)
/-- Center, plainly. -/
def cent (x y : Int) : Int × Int × Int := if Vd x y then ((2 * x + 1) * 1800000000 / 32768 - 1800000000, 900000000 - (2 * y + 1) * 900000000 / 32768, 0) else (0, 0, 11)
theorem Center_eq (x y : Int) : grid_Center.f x y = some (cent x y) := by
  unfold grid_Center.f cent
  rw [Valid_eq]
  by_cases h : Vd x y
  · have h' := h
    obtain ⟨v1, v2, v3, v4⟩ := h'
    rw [wrap_in (x := 2 * x) ⟨by omega, by omega⟩, wrap_in (x := 2 * x + 1) ⟨by omega, by omega⟩, wrap_in (x := (2 * x + 1) * 1800000000) ⟨by omega, by omega⟩, wrap_in (x := 2 * y) ⟨by omega, by omega⟩, wrap_in (x := 2 * y + 1) ⟨by omega, by omega⟩, wrap_in (x := (2 * y + 1) * 900000000) ⟨by omega, by omega⟩, FloorDiv_eq ⟨by omega, by omega⟩ (by decide), FloorDiv_eq ⟨by omega, by omega⟩ (by decide)]
    simp only [h, decide_true, Option.bind_some, if_true]
    rw [wrap_in ⟨by omega, by omega⟩, wrap_in ⟨by omega, by omega⟩]
  · simp [h]
end Go.Proofs.Ytdoafdcfkhdgnaa.Gr
