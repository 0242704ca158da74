/- The reference for the grid: Less, Holds and Dist2. -/
import Derived.Test.YtdoafdcfkhdgnaaGrR
import Derived.Test.YtdoafdcfkhdgnaaPAllx27
import Derived.Test.YtdoafdcfkhdgnaaPAllx28
import Derived.Test.YtdoafdcfkhdgnaaPAllx26
namespace Go.Proofs.Ytdoafdcfkhdgnaa.Gr
open Go.RowKit Go.Proofs.Ytdoafdcfkhdgnaa.PAll Go.Proofs.YtdoafdcfkhdgnaaW.PrintWords Go.Proofs.YtdoafdcfkhdgnaaW.PrintLast Go.Proofs.YtdoafdcfkhdgnaaW.PrintMore Go.Proofs.Ytdoafdcfkhdgnaa.Bas
set_option linter.unusedVariables false
set_option linter.unusedSimpArgs false

theorem rHolds_eq (a b c d x y : Int) : mapmakerref08_Holds.f a b c d x y = some (decide (Hd a b c d x y)) := by
  unfold mapmakerref08_Holds.f Hd
  rw [good_eq]
  by_cases h1 : Gd a b c d
  · rw [rValid_eq]
    by_cases h2 : Vd x y
    · simp only [h1, h2, decide_true, Option.bind_some, if_true, true_and]
      repeat' split
      all_goals (refine sd ?_; simp only [decide_eq_true_eq, Bool.false_eq_true, true_iff, false_iff]; omega)
    · simp [h1, h2]
  · simp [h1]

theorem rDist2_eq (a b c d x y : Int) : mapmakerref08_Dist2.f a b c d x y = some (dist2 a b c d x y) := by
  unfold mapmakerref08_Dist2.f dist2
  rw [good_eq]
  by_cases h1 : Gd a b c d
  · rw [rValid_eq]
    by_cases h2 : Vd x y
    · obtain ⟨ha, hac, hc, hb, hbd, hd⟩ := h1
      obtain ⟨v1, v2, v3, v4⟩ := h2
      have b1 := out_bd ha hac hc v1 v2
      have b2 := out_bd hb hbd hd v3 v4
      have s1 := sq_le b1.1 b1.2
      have s2 := sq_le b2.1 b2.2
      have g1 : Gd a b c d := ⟨ha, hac, hc, hb, hbd, hd⟩
      have g2 : Vd x y := ⟨v1, v2, v3, v4⟩
      simp only [g1, g2, decide_true, Option.bind_some, if_true, and_self, mx_eq]
      congr 1
      rw [wrap_in (x := a - x) ⟨by omega, by omega⟩, wrap_in (x := x - c) ⟨by omega, by omega⟩, wrap_in (x := b - y) ⟨by omega, by omega⟩, wrap_in (x := y - d) ⟨by omega, by omega⟩]
      have q1 := sq_abs (out_abs (x := x) hac)
      have q2 := sq_abs (out_abs (x := y) hbd)
      rw [q1, q2, wrap_in (x := out x a c * out x a c) ⟨by omega, by omega⟩, wrap_in (x := out y b d * out y b d) ⟨by omega, by omega⟩, wrap_in ⟨by omega, by omega⟩]
    · simp [h1, h2]
  · simp [h1]
theorem rLess_eq (x y x' y' : Int) : mapmakerref08_Less.f x y x' y' = some (decide (Ls x y x' y')) := by
  unfold mapmakerref08_Less.f Ls
  repeat' split
  all_goals (refine sd ?_; simp only [decide_eq_true_eq, Bool.false_eq_true, true_iff, false_iff]; omega)
end Go.Proofs.Ytdoafdcfkhdgnaa.Gr
