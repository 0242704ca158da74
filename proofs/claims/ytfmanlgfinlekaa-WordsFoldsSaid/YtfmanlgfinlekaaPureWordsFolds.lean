/- Fold and Split return what is specified: for any string of at most 400 bytes. -/
import Derived.Test.YtfmanlgfinlekaaWdP
import Derived.Test.YtfmanlgfinlekaaWdS
import Derived.Test.YtfmanlgfinlekaaWdL
import Derived.Test.YtfmanlgfinlekaaPAllx13
namespace Go.Proofs.Ytfmanlgfinlekaa.Pure
open Go.RowKit Go.Proofs.Ytfmanlgfinlekaa.PAll Go.Proofs.YtfmanlgfinlekaaW.PrintWords Go.Proofs.YtfmanlgfinlekaaW.PrintLast Go.Proofs.YtfmanlgfinlekaaW.PrintMore Go.Proofs.Ytfmanlgfinlekaa.Bas Go.Proofs.Ytfmanlgfinlekaa.Wd
set_option linter.unusedVariables false

theorem WordsFolds : mapmakerlaw51_WordsFolds.Pure := by
  intro s _
  refine Ev.rounds (Ev.congr (fun k => by rw [mapmakerlaw51_WordsFolds.f]) ?_)
  by_cases c : (s.size : Int) > 400
  · exact Ev_pos c fin_ev
  · have hs : (s.size : Int) ≤ 1000 := by omega
    have hl := sp_length s (s.size + 1) 0 0
    refine Ev_neg c (Ev.bind (pfold_ev s hs) (Ev.bind (rfold_ev s hs) ?_))
    refine Ev_pos rfl (Ev.bind (psplit_ev s hs) (Ev.bind (rsplit_ev s hs) ?_))
    refine Ev.bind (same_ev _ (by unfold spl; omega)) ?_
    exact Ev_pos rfl fin_ev
end Go.Proofs.Ytfmanlgfinlekaa.Pure
