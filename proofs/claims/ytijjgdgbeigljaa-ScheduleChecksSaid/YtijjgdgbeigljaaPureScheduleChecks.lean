/- Check returns the first error of any schedule of up to 40 spans: for every schedule. -/
import Derived.Test.YtijjgdgbeigljaaScB
import Derived.Test.YtijjgdgbeigljaaPAllx8
namespace Go.Proofs.Ytijjgdgbeigljaa.Pure
open Go.RowKit Go.Proofs.Ytijjgdgbeigljaa.PAll Go.Proofs.YtijjgdgbeigljaaW.PrintWords Go.Proofs.YtijjgdgbeigljaaW.PrintLast Go.Proofs.YtijjgdgbeigljaaW.PrintMore Go.Proofs.Ytijjgdgbeigljaa.Bas Go.Proofs.Ytijjgdgbeigljaa.Sc
set_option linter.unusedVariables false

theorem ScheduleChecks : mapmakerlaw07_ScheduleChecks.Pure := by
  intro l f e ⟨⟨hl, _⟩, _⟩
  refine Ev.rounds ?_
  refine Ev.congr (fun k => by rw [mapmakerlaw07_ScheduleChecks.f]) ?_
  by_cases c : (l.length : Int) > 40
  · exact Ev_pos c (Ev.bind lives_ev (Ev.now _))
  · exact Ev_neg c (Ev.bind (check_ev l f e (len_ok hl)) (Ev.bind (rcheck_ev l f e (len_ok hl)) (Ev_pos rfl (Ev.bind lives_ev (Ev.now _)))))

end Go.Proofs.Ytijjgdgbeigljaa.Pure
