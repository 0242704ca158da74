/- Next returns the first time from any time on at which any schedule of up to 40 spans is open: for every schedule and time. -/
import Derived.Test.YtijjgdgbeigljaaScB
import Derived.Test.YtijjgdgbeigljaaPAllx13
namespace Go.Proofs.Ytijjgdgbeigljaa.Pure
open Go.RowKit Go.Proofs.Ytijjgdgbeigljaa.PAll Go.Proofs.YtijjgdgbeigljaaW.PrintWords Go.Proofs.YtijjgdgbeigljaaW.PrintLast Go.Proofs.YtijjgdgbeigljaaW.PrintMore Go.Proofs.Ytijjgdgbeigljaa.Bas Go.Proofs.Ytijjgdgbeigljaa.Sc
set_option linter.unusedVariables false

theorem ScheduleNexts : mapmakerlaw07_ScheduleNexts.Pure := by
  intro l f e t ⟨⟨hl, _⟩, _⟩ _
  refine Ev.rounds ?_
  refine Ev.congr (fun k => by rw [mapmakerlaw07_ScheduleNexts.f]) ?_
  by_cases c : (l.length : Int) > 40
  · exact Ev_pos c (Ev.bind lives_ev (Ev.now _))
  · exact Ev_neg c (Ev.bind (next_ev l f e (len_ok hl) t) (Ev.bind (rnext_ev l f e (len_ok hl) t) (Ev_pos rfl (Ev_pos (by simp) (Ev.bind lives_ev (Ev.now _))))))

end Go.Proofs.Ytijjgdgbeigljaa.Pure
