/- CmpMul compares the exact products: for all arguments. -/
import Derived.Test.YtbjgcfbmifpepaaNmQ
import Derived.Test.YtbjgcfbmifpepaaNmL
import Derived.Test.YtbjgcfbmifpepaaPAllx28
namespace Go.Proofs.Ytbjgcfbmifpepaa.Pure
open Go.RowKit Go.Proofs.Ytbjgcfbmifpepaa.PAll Go.Proofs.YtbjgcfbmifpepaaW.PrintWords Go.Proofs.YtbjgcfbmifpepaaW.PrintLast Go.Proofs.YtbjgcfbmifpepaaW.PrintMore Go.Proofs.Ytbjgcfbmifpepaa.Bas Go.Proofs.Ytbjgcfbmifpepaa.Nm
set_option linter.unusedVariables false
set_option linter.unusedSimpArgs false

theorem NumCompares : mapmakerlaw01_NumCompares.Pure := by
  intro a b c d ⟨ha, hb, hc, hd⟩
  refine Ev.rounds (Ev.congr (fun k => by rw [mapmakerlaw01_NumCompares.f]) ?_)
  exact Ev.bind (CmpMul_ev (isI ha) (isI hb) (isI hc) (isI hd)) (Ev.bind (rCmpMul_ev (isI ha) (isI hb) (isI hc) (isI hd)) (Ev_pos rfl fin_ev))

end Go.Proofs.Ytbjgcfbmifpepaa.Pure
