/- Point returns the point at any position, and {-1, -1} for any other number. -/
import Derived.Test.YtffpomipmnlnjaaHiP
import Derived.Test.YtffpomipmnlnjaaPAllx11
namespace Go.Proofs.Ytffpomipmnlnjaa.Pure
open Go.RowKit Go.Proofs.Ytffpomipmnlnjaa.PAll Go.Proofs.YtffpomipmnlnjaaW.PrintWords Go.Proofs.YtffpomipmnlnjaaW.PrintLast Go.Proofs.YtffpomipmnlnjaaW.PrintMore Go.Proofs.Ytffpomipmnlnjaa.Bas Go.Proofs.Ytffpomipmnlnjaa.Hi
set_option linter.unusedVariables false

theorem HilbertPoints : mapmakerlaw10_HilbertPoints.Pure := by
  intro i h
  refine Ev.rounds (Ev.congr (fun k => by rw [mapmakerlaw10_HilbertPoints.f]) ?_)
  exact Ev.bind (Point_both i).1 (Ev.bind (Point_both i).2 (Ev_pos (by simp) fin_ev))

end Go.Proofs.Ytffpomipmnlnjaa.Pure
