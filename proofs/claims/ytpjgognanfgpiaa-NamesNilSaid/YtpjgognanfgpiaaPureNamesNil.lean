/- The methods of a nil table: nothing is added, nothing is found. -/
import Derived.Test.YtpjgognanfgpiaaNd
import Derived.Test.YtpjgognanfgpiaaNNi
namespace Go.Proofs.Ytpjgognanfgpiaa.Pure
open Go.RowKit Go.Proofs.Ytpjgognanfgpiaa.PAll Go.Proofs.YtpjgognanfgpiaaW.PrintWords Go.Proofs.YtpjgognanfgpiaaW.PrintLast Go.Proofs.YtpjgognanfgpiaaW.PrintMore Go.Proofs.Ytpjgognanfgpiaa.Bas Go.Proofs.Ytpjgognanfgpiaa.Nd
theorem NamesNil : mapmakerlaw03_NamesNil.Pure := by
  intro _ _ _ _
  exact Ev.rounds (Ev.congr (fun k => by rw [mapmakerlaw03_NamesNil.f]) fin_ev)
end Go.Proofs.Ytpjgognanfgpiaa.Pure
