/- Index returns the position of any grid point, and -1 for any other point. -/
import Derived.Test.YtffpomipmnlnjaaHiR
import Derived.Test.YtffpomipmnlnjaaPAllx9
namespace Go.Proofs.Ytffpomipmnlnjaa.Pure
open Go.RowKit Go.Proofs.Ytffpomipmnlnjaa.PAll Go.Proofs.YtffpomipmnlnjaaW.PrintWords Go.Proofs.YtffpomipmnlnjaaW.PrintLast Go.Proofs.YtffpomipmnlnjaaW.PrintMore Go.Proofs.Ytffpomipmnlnjaa.Bas Go.Proofs.Ytffpomipmnlnjaa.Hi
set_option linter.unusedVariables false

theorem HilbertIndexes : mapmakerlaw10_HilbertIndexes.Pure := by
  intro x y h
  refine Ev.rounds (Ev.congr (fun k => by rw [mapmakerlaw10_HilbertIndexes.f]) ?_)
  exact Ev.bind (Index_ev x y) (Ev.bind (rIndex_ev x y) (Ev_pos rfl fin_ev))

end Go.Proofs.Ytffpomipmnlnjaa.Pure
