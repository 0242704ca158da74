/- Check returns the first error of any reports (up to 40). -/
import Derived.Test.YtpjeomjingocbaaTr
import Derived.Test.YtpjeomjingocbaaPAllx17
namespace Go.Proofs.Ytpjeomjingocbaa.Pure
open Go.RowKit Go.Proofs.Ytpjeomjingocbaa.PAll Go.Proofs.YtpjeomjingocbaaW.PrintWords Go.Proofs.YtpjeomjingocbaaW.PrintLast Go.Proofs.YtpjeomjingocbaaW.PrintMore Go.Proofs.Ytpjeomjingocbaa.Bas Go.Proofs.Ytpjeomjingocbaa.Tr
set_option linter.unusedVariables false

theorem TrafficChecks : mapmakerlaw48_TrafficChecks.Pure := by
  intro l h
  have hl := len_ok h.1
  refine Ev.rounds (Ev.congr (fun k => by rw [mapmakerlaw48_TrafficChecks.f]) ?_)
  by_cases c : (l.length : Int) > 40
  · exact Ev_pos c fin_ev
  · refine Ev_neg c (Ev.bind (tck_ev l hl) (Ev.bind (rtck_ev l hl) ?_))
    exact Ev_pos rfl fin_ev
end Go.Proofs.Ytpjeomjingocbaa.Pure
