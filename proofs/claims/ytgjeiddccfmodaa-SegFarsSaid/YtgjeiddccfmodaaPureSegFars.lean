/- Far and Nearer return what is specified: for all arguments. -/
import Derived.Test.YtgjeiddccfmodaaSgF
import Derived.Test.YtgjeiddccfmodaaSgL
import Derived.Test.YtgjeiddccfmodaaPAllx33
namespace Go.Proofs.Ytgjeiddccfmodaa.Pure
open Go.RowKit Go.Proofs.Ytgjeiddccfmodaa.PAll Go.Proofs.YtgjeiddccfmodaaW.PrintWords Go.Proofs.YtgjeiddccfmodaaW.PrintLast Go.Proofs.YtgjeiddccfmodaaW.PrintMore Go.Proofs.Ytgjeiddccfmodaa.Bas Go.Proofs.Ytgjeiddccfmodaa.Sg
set_option linter.unusedVariables false

theorem SegFars : mapmakerlaw09_SegFars.Pure := by
  intro pu pv au av bu bv n d m e hp ha hb hn hd hm he
  refine Ev.rounds (Ev.congr (fun k => by rw [mapmakerlaw09_SegFars.f]) ?_)
  have fi := far_isI pu pv au av bu bv
  refine Ev.bind (Far_ev _ _ _ _ _ _) (Ev.bind (rFar_ev _ _ _ _ _ _) (Ev_pos rfl (Ev_pos rfl ?_)))
  refine Ev.bind (Nearer_ev (isI hn) (isI hd) (isI hm) (isI he)) (Ev.bind (rNearer_ev (isI hn) (isI hd) (isI hm) (isI he)) (Ev_pos rfl ?_))
  exact Ev.bind (Nearer_ev fi.1 fi.2 (isI hn) (isI hd)) (Ev.bind (rNearer_ev fi.1 fi.2 (isI hn) (isI hd)) (Ev_pos rfl fin_ev))

end Go.Proofs.Ytgjeiddccfmodaa.Pure
