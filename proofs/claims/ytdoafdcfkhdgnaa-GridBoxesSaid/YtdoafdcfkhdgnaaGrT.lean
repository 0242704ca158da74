/- The reference for the grid: Join, Meets and Check. -/
import Derived.Test.YtdoafdcfkhdgnaaGrR
import Derived.Test.YtdoafdcfkhdgnaaPAllx23
import Derived.Test.YtdoafdcfkhdgnaaPAllx24
import Derived.Test.YtdoafdcfkhdgnaaPAllx22
namespace Go.Proofs.Ytdoafdcfkhdgnaa.Gr
open Go.RowKit Go.Proofs.Ytdoafdcfkhdgnaa.PAll Go.Proofs.YtdoafdcfkhdgnaaW.PrintWords Go.Proofs.YtdoafdcfkhdgnaaW.PrintLast Go.Proofs.YtdoafdcfkhdgnaaW.PrintMore Go.Proofs.Ytdoafdcfkhdgnaa.Bas
set_option linter.unusedVariables false
set_option linter.unusedSimpArgs false

theorem rJoin_eq (a b c d a' b' c' d' : Int) : mapmakerref08_Join.f a b c d a' b' c' d' = some (join a b c d a' b' c' d') := by
  unfold mapmakerref08_Join.f join
  rw [good_eq, good_eq]
  by_cases h1 : Gd a b c d <;> by_cases h2 : Gd a' b' c' d' <;> simp [h1, h2, mx_eq, mn_eq]

theorem rMeets_eq (a b c d a' b' c' d' : Int) : mapmakerref08_Meets.f a b c d a' b' c' d' = some (decide (Mt a b c d a' b' c' d')) := by
  unfold mapmakerref08_Meets.f Mt
  rw [good_eq, good_eq]
  by_cases h1 : Gd a b c d
  · by_cases h2 : Gd a' b' c' d'
    · simp only [h1, h2, decide_true, Option.bind_some, if_true, true_and]
      repeat' split
      all_goals (refine sd ?_; simp only [decide_eq_true_eq, Bool.false_eq_true, true_iff, false_iff]; omega)
    · simp [h1, h2]
  · simp [h1]
theorem rCheck_eq (a b c d : Int) : mapmakerref08_Check.f a b c d = some (if Gd a b c d then 0 else 2) := by
  unfold mapmakerref08_Check.f
  rw [good_eq]
  by_cases h1 : Gd a b c d <;> simp [h1]
end Go.Proofs.Ytdoafdcfkhdgnaa.Gr
