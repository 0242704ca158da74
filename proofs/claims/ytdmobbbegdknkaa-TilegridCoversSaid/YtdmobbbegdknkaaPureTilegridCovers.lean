/- Cover returns what is specified: for any box and zoom. -/
import Derived.Test.YtdmobbbegdknkaaTgC
import Derived.Test.YtdmobbbegdknkaaPAllx19
namespace Go.Proofs.Ytdmobbbegdknkaa.Pure
open Go.RowKit Go.Proofs.Ytdmobbbegdknkaa.PAll Go.Proofs.YtdmobbbegdknkaaW.PrintWords Go.Proofs.YtdmobbbegdknkaaW.PrintLast Go.Proofs.YtdmobbbegdknkaaW.PrintMore Go.Proofs.Ytdmobbbegdknkaa.Bas Go.Proofs.Ytdmobbbegdknkaa.Tg
set_option linter.unusedVariables false

theorem fin_ev : Ev (fun k => (mapmakerlaw28_lives.f k).bind fun t => some t) true := Ev.bind lives_ev (Ev.now _)
theorem TilegridCovers : mapmakerlaw28_TilegridCovers.Pure := by
  intro a b c d z _ _
  refine Ev.rounds ?_
  refine Ev.congr (fun k => by rw [mapmakerlaw28_TilegridCovers.f]) (Ev.bind (cover_ev a b c d z) (Ev.bind (rcover_ev a b c d z) ?_))
  exact Ev.bind (same_ev _ (cov_length _ _ _ _ _)) (Ev_pos rfl fin_ev)
end Go.Proofs.Ytdmobbbegdknkaa.Pure
