/- The chapter's examples hold. -/
import Derived.Test.YtdoafdcfkhdgnaaBas
import Derived.Test.YtdoafdcfkhdgnaaPAllx17
namespace Go.Proofs.Ytdoafdcfkhdgnaa.Gr
open Go.RowKit Go.Proofs.Ytdoafdcfkhdgnaa.PAll Go.Proofs.YtdoafdcfkhdgnaaW.PrintWords Go.Proofs.YtdoafdcfkhdgnaaW.PrintLast Go.Proofs.YtdoafdcfkhdgnaaW.PrintMore Go.Proofs.Ytdoafdcfkhdgnaa.Bas
set_option linter.unusedVariables false
set_option linter.unusedSimpArgs false

theorem lives_ev : Ev (fun k => mapmakerlaw08_lives.f k) true := Ev.of mapmakerlaw08_lives.mono (k := 100) (by decide +kernel)
end Go.Proofs.Ytdoafdcfkhdgnaa.Gr
