/- Project, Center and Valid return what is specified: for any coordinate and point. -/
import Derived.Test.YtdoafdcfkhdgnaaGrG
import Derived.Test.YtdoafdcfkhdgnaaGrL
import Derived.Test.YtdoafdcfkhdgnaaPAllx34
namespace Go.Proofs.Ytdoafdcfkhdgnaa.Pure
open Go.RowKit Go.Proofs.Ytdoafdcfkhdgnaa.PAll Go.Proofs.YtdoafdcfkhdgnaaW.PrintWords Go.Proofs.YtdoafdcfkhdgnaaW.PrintLast Go.Proofs.YtdoafdcfkhdgnaaW.PrintMore Go.Proofs.Ytdoafdcfkhdgnaa.Bas Go.Proofs.Ytdoafdcfkhdgnaa.Gr
set_option linter.unusedVariables false

theorem GridProjects : mapmakerlaw08_GridProjects.Pure := by
  intro lon lat x y _ _
  refine Ev.rounds ?_
  refine Ev.congr (fun k => by rw [mapmakerlaw08_GridProjects.f]) ?_
  refine Ev.bind (Project_ev _ _) (Ev.bind (Ev_const (rProject_eq _ _)) (Ev.bind (Ev_const (Center_eq _ _)) (Ev.bind (Ev_const (rCenter_eq _ _)) ?_)))
  refine Ev_pos (by simp) (Ev_pos rfl (Ev_pos (by simp) (Ev_pos rfl ?_)))
  exact Ev.bind (Ev_const (Valid_eq _ _)) (Ev.bind (Ev_const (rValid_eq _ _)) (Ev_pos (by simp) (Ev.bind lives_ev (Ev.now _))))

end Go.Proofs.Ytdoafdcfkhdgnaa.Pure
