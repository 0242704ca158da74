/- The chapter's examples hold. -/
import Derived.Test.YtfmanlgfinlekaaBas
import Derived.Test.YtfmanlgfinlekaaPAllx8
namespace Go.Proofs.Ytfmanlgfinlekaa.Wd
open Go.RowKit Go.Proofs.Ytfmanlgfinlekaa.PAll Go.Proofs.YtfmanlgfinlekaaW.PrintWords Go.Proofs.YtfmanlgfinlekaaW.PrintLast Go.Proofs.YtfmanlgfinlekaaW.PrintMore Go.Proofs.Ytfmanlgfinlekaa.Bas
set_option linter.unusedVariables false
theorem lives_ev : Ev (fun k => mapmakerlaw51_lives.f k) true := Ev.of mapmakerlaw51_lives.mono (k := 200) (by decide +kernel)
theorem fin_ev : Ev (fun k => (mapmakerlaw51_lives.f k).bind fun t => some t) true := Ev.bind lives_ev (Ev.now _)
end Go.Proofs.Ytfmanlgfinlekaa.Wd
