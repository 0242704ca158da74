/- The reference for the grid: Good and Valid. -/
import Derived.Test.YtdoafdcfkhdgnaaGr
import Derived.Test.YtdoafdcfkhdgnaaPAllx21
import Derived.Test.YtdoafdcfkhdgnaaPAllx18
namespace Go.Proofs.Ytdoafdcfkhdgnaa.Gr
open Go.RowKit Go.Proofs.Ytdoafdcfkhdgnaa.PAll Go.Proofs.YtdoafdcfkhdgnaaW.PrintWords Go.Proofs.YtdoafdcfkhdgnaaW.PrintLast Go.Proofs.YtdoafdcfkhdgnaaW.PrintMore Go.Proofs.Ytdoafdcfkhdgnaa.Bas
set_option linter.unusedVariables false
set_option linter.unusedSimpArgs false

theorem good_eq (a b c d : Int) : mapmakerref08_Good.f a b c d = some (decide (Gd a b c d)) := by
  unfold mapmakerref08_Good.f Gd
  repeat' split
  all_goals (refine sd ?_; simp only [decide_eq_true_eq, Bool.false_eq_true, true_iff, false_iff]; omega)
theorem rValid_eq (x y : Int) : mapmakerref08_Valid.f x y = some (decide (Vd x y)) := by
  unfold mapmakerref08_Valid.f Vd
  repeat' split
  all_goals (refine sd ?_; simp only [decide_eq_true_eq, Bool.false_eq_true, true_iff, false_iff]; omega)
end Go.Proofs.Ytdoafdcfkhdgnaa.Gr
