/- Check, Size, Box and Of return what is specified: for any tile, point and zoom. -/
import Derived.Test.YtdmobbbegdknkaaTg
import Derived.Test.YtdmobbbegdknkaaPAllx27
namespace Go.Proofs.Ytdmobbbegdknkaa.Pure
open Go.RowKit Go.Proofs.Ytdmobbbegdknkaa.PAll Go.Proofs.YtdmobbbegdknkaaW.PrintWords Go.Proofs.YtdmobbbegdknkaaW.PrintLast Go.Proofs.YtdmobbbegdknkaaW.PrintMore Go.Proofs.Ytdmobbbegdknkaa.Bas Go.Proofs.Ytdmobbbegdknkaa.Tg
set_option linter.unusedVariables false

theorem fin_ev : Ev (fun k => (mapmakerlaw28_lives.f k).bind fun t => some t) true := Ev.bind lives_ev (Ev.now _)
theorem TilegridChecks : mapmakerlaw28_TilegridChecks.Pure := by
  intro z x y p q v _ _ _
  refine Ev.rounds ?_
  refine Ev.congr (fun k => by rw [mapmakerlaw28_TilegridChecks.f, box_eq, Option.bind_some]) (Ev.bind (rbox_ev z x y) ?_)
  refine Ev.congr (fun k => by rw [of_eq, Option.bind_some]) (Ev.bind (rof_ev p q v) ?_)
  refine Ev.congr (fun k => by rw [check_eq, Option.bind_some]) (Ev.bind (rcheck_ev z x y) (Ev_pos rfl ?_))
  refine Ev.congr (fun k => by rw [size_eq, Option.bind_some]) (Ev.bind (rsize_ev v) (Ev_pos rfl ?_))
  exact Ev_pos (by simp) (Ev_pos rfl (Ev_pos (by simp) (Ev_pos rfl fin_ev)))
end Go.Proofs.Ytdmobbbegdknkaa.Pure
