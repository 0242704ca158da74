/- The chapter's examples hold. -/
import Derived.Test.YtgjeiddccfmodaaBas
import Derived.Test.YtgjeiddccfmodaaPAllx25
namespace Go.Proofs.Ytgjeiddccfmodaa.Sg
open Go.RowKit Go.Proofs.Ytgjeiddccfmodaa.PAll Go.Proofs.YtgjeiddccfmodaaW.PrintWords Go.Proofs.YtgjeiddccfmodaaW.PrintLast Go.Proofs.YtgjeiddccfmodaaW.PrintMore Go.Proofs.Ytgjeiddccfmodaa.Bas
set_option linter.unusedVariables false
set_option linter.unusedSimpArgs false

theorem lives_ev : Ev (fun k => mapmakerlaw09_lives.f k) true := Ev.of mapmakerlaw09_lives.mono (k := 200) (by decide +kernel)
theorem fin_ev : Ev (fun k => (mapmakerlaw09_lives.f k).bind fun t => some t) true := Ev.bind lives_ev (Ev.now _)
end Go.Proofs.Ytgjeiddccfmodaa.Sg
