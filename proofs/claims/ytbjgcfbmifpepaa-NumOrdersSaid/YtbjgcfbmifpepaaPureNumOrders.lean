/- Exchanging the two products negates CmpMul, exchanging the factors of one does not change it: for all arguments. -/
import Derived.Test.YtbjgcfbmifpepaaNmP
import Derived.Test.YtbjgcfbmifpepaaNmL
import Derived.Test.YtbjgcfbmifpepaaPAllx29
namespace Go.Proofs.Ytbjgcfbmifpepaa.Pure
open Go.RowKit Go.Proofs.Ytbjgcfbmifpepaa.PAll Go.Proofs.YtbjgcfbmifpepaaW.PrintWords Go.Proofs.YtbjgcfbmifpepaaW.PrintLast Go.Proofs.YtbjgcfbmifpepaaW.PrintMore Go.Proofs.Ytbjgcfbmifpepaa.Bas Go.Proofs.Ytbjgcfbmifpepaa.Nm
set_option linter.unusedVariables false
set_option linter.unusedSimpArgs false

theorem NumOrders : mapmakerlaw01_NumOrders.Pure := by
  intro a b c d ⟨ha, hb, hc, hd⟩
  have ha := isI ha
  have hb := isI hb
  have hc := isI hc
  have hd := isI hd
  have bd := cmp_bd a b c d
  refine Ev.rounds (Ev.congr (fun k => by rw [mapmakerlaw01_NumOrders.f]) ?_)
  refine Ev.bind (CmpMul_ev ha hb hc hd) (Ev_pos (by omega) (Ev_pos (by omega) ?_))
  refine Ev.bind (CmpMul_ev hc hd ha hb) (Ev_pos (by rw [wrap_in ⟨by omega, by omega⟩]; exact cmp_anti a b c d) ?_)
  refine Ev.bind (CmpMul_ev hb ha hc hd) (Ev_pos (cmp_comm a b c d) ?_)
  exact Ev.bind (CmpMul_ev ha hb hb ha) (Ev_pos (cmp_self a b) fin_ev)

end Go.Proofs.Ytbjgcfbmifpepaa.Pure
