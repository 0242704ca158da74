/- Relate returns what is specified: for any segments. -/
import Derived.Test.YtgjeiddccfmodaaSgO
import Derived.Test.YtgjeiddccfmodaaSgL
import Derived.Test.YtgjeiddccfmodaaPAllx26
namespace Go.Proofs.Ytgjeiddccfmodaa.Pure
open Go.RowKit Go.Proofs.Ytgjeiddccfmodaa.PAll Go.Proofs.YtgjeiddccfmodaaW.PrintWords Go.Proofs.YtgjeiddccfmodaaW.PrintLast Go.Proofs.YtgjeiddccfmodaaW.PrintMore Go.Proofs.Ytgjeiddccfmodaa.Bas Go.Proofs.Ytgjeiddccfmodaa.Sg
set_option linter.unusedVariables false

theorem SegRelates : mapmakerlaw09_SegRelates.Pure := by
  intro a0 a1 b0 b1 c0 c1 d0 d1 hs ht
  refine Ev.rounds (Ev.congr (fun k => by rw [mapmakerlaw09_SegRelates.f]) ?_)
  exact Ev.bind (Relate_ev ⟨a0, a1⟩ ⟨b0, b1⟩ ⟨c0, c1⟩ ⟨d0, d1⟩) (Ev.bind (rRelate_ev ⟨a0, a1⟩ ⟨b0, b1⟩ ⟨c0, c1⟩ ⟨d0, d1⟩) (Ev_pos rfl fin_ev))

end Go.Proofs.Ytgjeiddccfmodaa.Pure
