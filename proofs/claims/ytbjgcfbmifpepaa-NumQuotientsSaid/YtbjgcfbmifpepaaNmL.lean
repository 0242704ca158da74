/- The chapter's examples hold. -/
import Derived.Test.YtbjgcfbmifpepaaBas
import Derived.Test.YtbjgcfbmifpepaaPAllx14
namespace Go.Proofs.Ytbjgcfbmifpepaa.Nm
open Go.RowKit Go.Proofs.Ytbjgcfbmifpepaa.PAll Go.Proofs.YtbjgcfbmifpepaaW.PrintWords Go.Proofs.YtbjgcfbmifpepaaW.PrintLast Go.Proofs.YtbjgcfbmifpepaaW.PrintMore Go.Proofs.Ytbjgcfbmifpepaa.Bas
set_option linter.unusedVariables false
set_option linter.unusedSimpArgs false

theorem lives_ev : Ev (fun k => mapmakerlaw01_lives.f k) true := Ev.of mapmakerlaw01_lives.mono (k := 200) (by decide +kernel)
theorem fin_ev : Ev (fun k => (mapmakerlaw01_lives.f k).bind fun t => some t) true := Ev.bind lives_ev (Ev.now _)
end Go.Proofs.Ytbjgcfbmifpepaa.Nm
