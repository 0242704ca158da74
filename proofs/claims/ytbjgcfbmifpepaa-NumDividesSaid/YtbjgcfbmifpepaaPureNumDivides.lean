/- FloorDiv and RoundDiv return the exact rounded quotients, and 0 for a divisor that is not positive: for all arguments. -/
import Derived.Test.YtbjgcfbmifpepaaNmD
import Derived.Test.YtbjgcfbmifpepaaNmL
import Derived.Test.YtbjgcfbmifpepaaPAllx18
namespace Go.Proofs.Ytbjgcfbmifpepaa.Pure
open Go.RowKit Go.Proofs.Ytbjgcfbmifpepaa.PAll Go.Proofs.YtbjgcfbmifpepaaW.PrintWords Go.Proofs.YtbjgcfbmifpepaaW.PrintLast Go.Proofs.YtbjgcfbmifpepaaW.PrintMore Go.Proofs.Ytbjgcfbmifpepaa.Bas Go.Proofs.Ytbjgcfbmifpepaa.Nm
set_option linter.unusedVariables false
set_option linter.unusedSimpArgs false

theorem NumDivides : mapmakerlaw01_NumDivides.Pure := by
  intro a b ha hb
  have ha := isI ha
  have hb := isI hb
  refine Ev.rounds (Ev.congr (fun k => by rw [mapmakerlaw01_NumDivides.f]) ?_)
  have rest : Ev (fun k => (num_RoundDiv.f k a b).bind fun t => (mapmakerref01_RoundDiv.f k a b).bind fun u => if t = u then (mapmakerlaw01_lives.f k).bind fun t => some t else none) true :=
    Ev.bind (RoundDiv_ev ha hb) (Ev.bind (rRoundDiv_ev ha hb) (Ev_pos rfl fin_ev))
  by_cases c : b ≤ 0
  · exact Ev.bind (Ev_const (FloorDiv_no c)) (Ev.bind (Ev_const (rFloorDiv_no c)) (Ev_pos rfl rest))
  · exact Ev.bind (Ev_const (FloorDiv_eq ha (by omega))) (Ev.bind (Ev_const (rFloorDiv_eq ha (by omega))) (Ev_pos rfl rest))

end Go.Proofs.Ytbjgcfbmifpepaa.Pure
