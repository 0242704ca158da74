/- Free reports whether any schedule of up to 40 spans is open at all times: for every schedule. -/
import Derived.Test.YtijjgdgbeigljaaScB
import Derived.Test.YtijjgdgbeigljaaPAllx15
namespace Go.Proofs.Ytijjgdgbeigljaa.Pure
open Go.RowKit Go.Proofs.Ytijjgdgbeigljaa.PAll Go.Proofs.YtijjgdgbeigljaaW.PrintWords Go.Proofs.YtijjgdgbeigljaaW.PrintLast Go.Proofs.YtijjgdgbeigljaaW.PrintMore Go.Proofs.Ytijjgdgbeigljaa.Bas Go.Proofs.Ytijjgdgbeigljaa.Sc
set_option linter.unusedVariables false

theorem ScheduleFrees : mapmakerlaw07_ScheduleFrees.Pure := by
  intro l f e ⟨⟨hl, _⟩, _⟩
  refine Ev.rounds ?_
  refine Ev.congr (fun k => by rw [mapmakerlaw07_ScheduleFrees.f]) ?_
  by_cases c : (l.length : Int) > 40
  · exact Ev_pos c (Ev.bind lives_ev (Ev.now _))
  · exact Ev_neg c (Ev.bind (free_ev l f e (len_ok hl)) (Ev.bind (rfree_ev l f e (len_ok hl)) (Ev_pos (by simp) (Ev.bind lives_ev (Ev.now _)))))

end Go.Proofs.Ytijjgdgbeigljaa.Pure
