/- MulDiv returns the floor of the product by the divisor and true exactly where that is an int: for all arguments. -/
import Derived.Test.YtbjgcfbmifpepaaNmW
import Derived.Test.YtbjgcfbmifpepaaNmL
import Derived.Test.YtbjgcfbmifpepaaPAllx25
namespace Go.Proofs.Ytbjgcfbmifpepaa.Pure
open Go.RowKit Go.Proofs.Ytbjgcfbmifpepaa.PAll Go.Proofs.YtbjgcfbmifpepaaW.PrintWords Go.Proofs.YtbjgcfbmifpepaaW.PrintLast Go.Proofs.YtbjgcfbmifpepaaW.PrintMore Go.Proofs.Ytbjgcfbmifpepaa.Bas Go.Proofs.Ytbjgcfbmifpepaa.Nm
set_option linter.unusedVariables false
set_option linter.unusedSimpArgs false

theorem NumMulDivs : mapmakerlaw01_NumMulDivs.Pure := by
  intro a b c ha hb hc
  refine Ev.rounds (Ev.congr (fun k => by rw [mapmakerlaw01_NumMulDivs.f]) ?_)
  exact Ev.bind (MulDiv_ev (isI ha) (isI hb) (isI hc)) (Ev.bind (rMulDiv_ev (isI ha) (isI hb) (isI hc)) (Ev_pos rfl (Ev_pos (by simp) fin_ev)))

end Go.Proofs.Ytbjgcfbmifpepaa.Pure
