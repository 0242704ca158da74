/- Box, Check, Join and Meets return what is specified: for any boxes and at most 200 points. -/
import Derived.Test.YtdoafdcfkhdgnaaGrT
import Derived.Test.YtdoafdcfkhdgnaaGrH
import Derived.Test.YtdoafdcfkhdgnaaGrL
import Derived.Test.YtdoafdcfkhdgnaaPAllx25
namespace Go.Proofs.Ytdoafdcfkhdgnaa.Pure
open Go.RowKit Go.Proofs.Ytdoafdcfkhdgnaa.PAll Go.Proofs.YtdoafdcfkhdgnaaW.PrintWords Go.Proofs.YtdoafdcfkhdgnaaW.PrintLast Go.Proofs.YtdoafdcfkhdgnaaW.PrintMore Go.Proofs.Ytdoafdcfkhdgnaa.Bas Go.Proofs.Ytdoafdcfkhdgnaa.Gr
set_option linter.unusedVariables false

theorem GridBoxes : mapmakerlaw08_GridBoxes.Pure := by
  intro l a b c d a' b' c' d' ⟨hl, _⟩ _ _
  refine Ev.rounds ?_
  refine Ev.congr (fun k => by rw [mapmakerlaw08_GridBoxes.f]) ?_
  by_cases g : (l.length : Int) > 200
  · exact Ev_pos g (Ev.bind lives_ev (Ev.now _))
  · refine Ev_neg g (Ev.bind (Box_ev l (len_ok hl)) (Ev.bind (rBox_ev l (len_ok hl)) (Ev_pos (by simp) (Ev_pos (by simp) ?_))))
    refine Ev.bind (Ev_const (Check_eq _ _ _ _)) (Ev.bind (Ev_const (rCheck_eq _ _ _ _)) (Ev_pos rfl ?_))
    refine Ev.bind (Ev_const (Join_eq _ _ _ _ _ _ _ _)) (Ev.bind (Ev_const (rJoin_eq _ _ _ _ _ _ _ _)) (Ev_pos (by simp) ?_))
    exact Ev.bind (Ev_const (Meets_eq _ _ _ _ _ _ _ _)) (Ev.bind (Ev_const (rMeets_eq _ _ _ _ _ _ _ _)) (Ev_pos (by simp) (Ev.bind lives_ev (Ev.now _))))

end Go.Proofs.Ytdoafdcfkhdgnaa.Pure
