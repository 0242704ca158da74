/- Less, Holds and Dist2 return what is specified: for any box and points. -/
import Derived.Test.YtdoafdcfkhdgnaaGrS
import Derived.Test.YtdoafdcfkhdgnaaGrL
import Derived.Test.YtdoafdcfkhdgnaaPAllx29
namespace Go.Proofs.Ytdoafdcfkhdgnaa.Pure
open Go.RowKit Go.Proofs.Ytdoafdcfkhdgnaa.PAll Go.Proofs.YtdoafdcfkhdgnaaW.PrintWords Go.Proofs.YtdoafdcfkhdgnaaW.PrintLast Go.Proofs.YtdoafdcfkhdgnaaW.PrintMore Go.Proofs.Ytdoafdcfkhdgnaa.Bas Go.Proofs.Ytdoafdcfkhdgnaa.Gr
set_option linter.unusedVariables false

theorem GridPoints : mapmakerlaw08_GridPoints.Pure := by
  intro a b c d x y x' y' _ _ _
  refine Ev.rounds ?_
  refine Ev.congr (fun k => by rw [mapmakerlaw08_GridPoints.f]) ?_
  refine Ev.bind (Ev_const (Less_eq _ _ _ _)) (Ev.bind (Ev_const (rLess_eq _ _ _ _)) (Ev_pos (by simp) ?_))
  refine Ev.bind (Ev_const (Holds_eq _ _ _ _ _ _)) (Ev.bind (Ev_const (rHolds_eq _ _ _ _ _ _)) (Ev_pos (by simp) ?_))
  exact Ev.bind (Ev_const (Dist2_eq _ _ _ _ _ _)) (Ev.bind (Ev_const (rDist2_eq _ _ _ _ _ _)) (Ev_pos rfl (Ev.bind lives_ev (Ev.now _))))

end Go.Proofs.Ytdoafdcfkhdgnaa.Pure
