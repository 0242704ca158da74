/- The grid: Valid, valid, Clamp, Join, Meets, Check, nearest, Holds, Dist2, Less, each as one plain function. -/
import Derived.Test.YtdoafdcfkhdgnaaBas
import Derived.Test.YtdoafdcfkhdgnaaPAllx4
import Derived.Test.YtdoafdcfkhdgnaaPAllx6
import Derived.Test.YtdoafdcfkhdgnaaPAllx11
import Derived.Test.YtdoafdcfkhdgnaaPAllx5
import Derived.Test.YtdoafdcfkhdgnaaPAllx9
import Derived.Test.YtdoafdcfkhdgnaaPAllx8
import Derived.Test.YtdoafdcfkhdgnaaPAllx12
import Derived.Test.YtdoafdcfkhdgnaaPAllx13
import Derived.Test.YtdoafdcfkhdgnaaPAllx14
import Derived.Test.YtdoafdcfkhdgnaaPAllx10
namespace Go.Proofs.Ytdoafdcfkhdgnaa.Gr
open Go.RowKit Go.Proofs.Ytdoafdcfkhdgnaa.PAll Go.Proofs.YtdoafdcfkhdgnaaW.PrintWords Go.Proofs.YtdoafdcfkhdgnaaW.PrintLast Go.Proofs.YtdoafdcfkhdgnaaW.PrintMore Go.Proofs.Ytdoafdcfkhdgnaa.Bas
set_option linter.unusedVariables false
set_option linter.unusedSimpArgs false

/-- A valid box. -/
def Gd (a b c d : Int) : Prop := 0 ≤ a ∧ a ≤ c ∧ c ≤ 32768 ∧ 0 ≤ b ∧ b ≤ d ∧ d ≤ 32768
instance (a b c d : Int) : Decidable (Gd a b c d) := by unfold Gd; infer_instance
/-- A grid point. -/
def Vd (x y : Int) : Prop := 0 ≤ x ∧ x < 32768 ∧ 0 ≤ y ∧ y < 32768
instance (x y : Int) : Decidable (Vd x y) := by unfold Vd; infer_instance

theorem sd {b : Bool} {p : Prop} [Decidable p] (h : b = true ↔ p) : some b = some (decide p) := by
  congr 1
  rw [Bool.eq_iff_iff, h, decide_eq_true_eq]
theorem valid_eq (a b c d : Int) : grid_valid.f a b c d = some (decide (Gd a b c d)) := by
  unfold grid_valid.f Gd
  repeat' split
  all_goals (refine sd ?_; simp only [decide_eq_true_eq, Bool.false_eq_true, true_iff, false_iff]; omega)
theorem Valid_eq (x y : Int) : grid_Valid.f x y = some (decide (Vd x y)) := by
  unfold grid_Valid.f Vd
  repeat' split
  all_goals (refine sd ?_; simp only [decide_eq_true_eq, Bool.false_eq_true, true_iff, false_iff]; omega)
def clamp (x lo hi : Int) : Int := if x < lo then lo else if x > hi then hi else x
theorem Clamp_eq (x lo hi : Int) : num_Clamp.f x lo hi = some (clamp x lo hi) := by
  unfold num_Clamp.f clamp
  repeat' split
  all_goals rfl

def join (a b c d a' b' c' d' : Int) : Int × Int × Int × Int := if Gd a b c d ∧ Gd a' b' c' d' then (min a a', min b b', max c c', max d d') else (0, 0, 0, 0)
theorem Join_eq (a b c d a' b' c' d' : Int) : grid_Join.f a b c d a' b' c' d' = some (join a b c d a' b' c' d') := by
  unfold grid_Join.f join
  rw [valid_eq, valid_eq]
  by_cases h1 : Gd a b c d <;> by_cases h2 : Gd a' b' c' d' <;> simp [h1, h2, mx_eq, mn_eq]
/-- Two valid boxes with a point in common. -/
def Mt (a b c d a' b' c' d' : Int) : Prop := Gd a b c d ∧ Gd a' b' c' d' ∧ a ≤ c' ∧ a' ≤ c ∧ b ≤ d' ∧ b' ≤ d
instance (a b c d a' b' c' d' : Int) : Decidable (Mt a b c d a' b' c' d') := by unfold Mt; infer_instance
theorem Meets_eq (a b c d a' b' c' d' : Int) : grid_Meets.f a b c d a' b' c' d' = some (decide (Mt a b c d a' b' c' d')) := by
  unfold grid_Meets.f Mt
  rw [valid_eq, valid_eq]
  by_cases h1 : Gd a b c d
  · by_cases h2 : Gd a' b' c' d'
    · simp only [h1, h2, decide_true, Option.bind_some, if_true, true_and]
      repeat' split
      all_goals (refine sd ?_; simp only [decide_eq_true_eq, Bool.false_eq_true, true_iff, false_iff]; omega)
    · simp [h1, h2]
  · simp [h1]
theorem Check_eq (a b c d : Int) : grid_Check.f a b c d = some (if Gd a b c d then 0 else 2) := by
  unfold grid_Check.f
  rw [valid_eq]
  by_cases h1 : Gd a b c d <;> simp [h1]
theorem nearest_eq (a b c d x y : Int) : grid_nearest.f a b c d x y = some (clamp x a c, clamp y b d) := by
  unfold grid_nearest.f
  rw [Clamp_eq, Clamp_eq]
  rfl
/-- A valid box that contains a grid point. -/
def Hd (a b c d x y : Int) : Prop := Gd a b c d ∧ Vd x y ∧ a ≤ x ∧ x ≤ c ∧ b ≤ y ∧ y ≤ d
instance (a b c d x y : Int) : Decidable (Hd a b c d x y) := by unfold Hd; infer_instance
theorem clamp_self {x a c : Int} (h : a ≤ c) : clamp x a c = x ↔ a ≤ x ∧ x ≤ c := by
  unfold clamp
  split
  · omega
  · split <;> omega
theorem Holds_eq (a b c d x y : Int) : grid_Holds.f a b c d x y = some (decide (Hd a b c d x y)) := by
  unfold grid_Holds.f Hd
  rw [valid_eq]
  by_cases h1 : Gd a b c d
  · rw [Valid_eq]
    by_cases h2 : Vd x y
    · rw [nearest_eq]
      have g1 := clamp_self (x := x) h1.2.1
      have g2 := clamp_self (x := y) h1.2.2.2.2.1
      simp only [h1, h2, decide_true, Option.bind_some, if_true, true_and]
      congr 1
      rw [Bool.eq_iff_iff]
      simp only [Bool.and_eq_true, beq_iff_eq, g1, g2, decide_eq_true_eq]
      omega
    · simp [h1, h2]
  · simp [h1]
theorem sq_le {a : Int} (h0 : -32768 ≤ a) (h1 : a ≤ 32768) : 0 ≤ a * a ∧ a * a ≤ 1073741824 := by
  rcases Int.le_total 0 a with h | h
  · exact ⟨Int.mul_nonneg h h, Int.le_trans (Int.mul_le_mul h1 h1 h (by omega)) (by decide)⟩
  · have e : a * a = (-a) * (-a) := by rw [Int.neg_mul_neg]
    rw [e]
    exact ⟨Int.mul_nonneg (by omega) (by omega), Int.le_trans (Int.mul_le_mul (show -a ≤ 32768 by omega) (show -a ≤ 32768 by omega) (by omega) (by omega)) (by decide)⟩
/-- How far a number lies outside. -/
def out (x a c : Int) : Int := x - clamp x a c
theorem clamp_bd {x a c : Int} (ha : 0 ≤ a) (hac : a ≤ c) (hc : c ≤ 32768) : 0 ≤ clamp x a c ∧ clamp x a c ≤ 32768 := by
  unfold clamp
  split
  · omega
  · split <;> omega
theorem out_bd {x a c : Int} (ha : 0 ≤ a) (hac : a ≤ c) (hc : c ≤ 32768) (h0 : 0 ≤ x) (h1 : x < 32768) : -32768 ≤ out x a c ∧ out x a c ≤ 32768 := by
  have := clamp_bd (x := x) ha hac hc
  unfold out
  omega
theorem out_abs {x a c : Int} (hac : a ≤ c) : max (max (a - x) (x - c)) 0 = out x a c ∨ max (max (a - x) (x - c)) 0 = - out x a c := by
  unfold out clamp
  split
  · omega
  · split <;> omega
def dist2 (a b c d x y : Int) : Int := if Gd a b c d ∧ Vd x y then out x a c * out x a c + out y b d * out y b d else 0
theorem Dist2_eq (a b c d x y : Int) : grid_Dist2.f a b c d x y = some (dist2 a b c d x y) := by
  unfold grid_Dist2.f dist2
  rw [valid_eq]
  by_cases h1 : Gd a b c d
  · rw [Valid_eq]
    by_cases h2 : Vd x y
    · rw [nearest_eq]
      obtain ⟨ha, hac, hc, hb, hbd, hd⟩ := h1
      obtain ⟨v1, v2, v3, v4⟩ := h2
      have b1 := out_bd ha hac hc v1 v2
      have b2 := out_bd hb hbd hd v3 v4
      have s1 := sq_le b1.1 b1.2
      have s2 := sq_le b2.1 b2.2
      have g1 : Gd a b c d := ⟨ha, hac, hc, hb, hbd, hd⟩
      have g2 : Vd x y := ⟨v1, v2, v3, v4⟩
      simp only [g1, g2, decide_true, Option.bind_some, if_true, and_self]
      congr 1
      show wrap64 (wrap64 (wrap64 (out x a c) * wrap64 (out x a c)) + wrap64 (wrap64 (out y b d) * wrap64 (out y b d))) = _
      rw [wrap_in (x := out x a c) ⟨by omega, by omega⟩, wrap_in (x := out y b d) ⟨by omega, by omega⟩, wrap_in (x := out x a c * out x a c) ⟨by omega, by omega⟩, wrap_in (x := out y b d * out y b d) ⟨by omega, by omega⟩, wrap_in ⟨by omega, by omega⟩]
    · simp [h1, h2]
  · simp [h1]
theorem sq_abs {u v : Int} (h : u = v ∨ u = -v) : u * u = v * v := by
  rcases h with h | h
  · rw [h]
  · rw [h, Int.neg_mul_neg]
def Ls (x y x' y' : Int) : Prop := x < x' ∨ x = x' ∧ y < y'
instance (x y x' y' : Int) : Decidable (Ls x y x' y') := by unfold Ls; infer_instance
theorem Less_eq (x y x' y' : Int) : grid_Less.f x y x' y' = some (decide (Ls x y x' y')) := by
  unfold grid_Less.f Ls
  split
  all_goals (refine sd ?_; simp only [decide_eq_true_eq, Bool.false_eq_true, true_iff, false_iff]; omega)
end Go.Proofs.Ytdoafdcfkhdgnaa.Gr
