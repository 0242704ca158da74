/- Expand and Of return what is specified: for any strings of at most 400 bytes. -/
import Derived.Test.YtfmanlgfinlekaaWdO
import Derived.Test.YtfmanlgfinlekaaWdL
import Derived.Test.YtfmanlgfinlekaaPAllx16
namespace Go.Proofs.Ytfmanlgfinlekaa.Pure
open Go.RowKit Go.Proofs.Ytfmanlgfinlekaa.PAll Go.Proofs.YtfmanlgfinlekaaW.PrintWords Go.Proofs.YtfmanlgfinlekaaW.PrintLast Go.Proofs.YtfmanlgfinlekaaW.PrintMore Go.Proofs.Ytfmanlgfinlekaa.Bas Go.Proofs.Ytfmanlgfinlekaa.Wd
set_option linter.unusedVariables false

theorem WordsOf : mapmakerlaw51_WordsOf.Pure := by
  intro s w _ _
  refine Ev.rounds (Ev.congr (fun k => by rw [mapmakerlaw51_WordsOf.f]) ?_)
  have out : Ev (fun k => mapmakerlaw51_WordsOf.j0 k s w true) true := by
    refine Ev_round (fun k => by rw [mapmakerlaw51_WordsOf.j0]) ?_
    exact Ev_pos rfl fin_ev
  by_cases c : (s.size : Int) > 400
  · exact Ev_pos c out
  · refine Ev_neg c ?_
    by_cases d : (w.size : Int) > 400
    · rw [decide_eq_true d]
      exact out
    · rw [decide_eq_false d]
      have hs : (s.size : Int) ≤ 1000 := by omega
      have hl := off0_length s
      refine Ev_round (fun k => by rw [mapmakerlaw51_WordsOf.j0, pexpand_eq, Option.bind_some]) ?_
      refine Ev_neg Bool.false_ne_true (Ev.bind (rexpand_ev w) ?_)
      refine Ev_pos rfl (Ev.bind (pof_ev s hs) (Ev.bind (rof_ev s hs) ?_))
      refine Ev.bind (same_ev _ (by omega)) ?_
      exact Ev_pos rfl fin_ev
end Go.Proofs.Ytfmanlgfinlekaa.Pure
