/- Clamp returns the specified bound or x: for all arguments. -/
import Derived.Test.YtbjgcfbmifpepaaNmL
import Derived.Test.YtbjgcfbmifpepaaPAllx15
namespace Go.Proofs.Ytbjgcfbmifpepaa.Pure
open Go.RowKit Go.Proofs.Ytbjgcfbmifpepaa.PAll Go.Proofs.YtbjgcfbmifpepaaW.PrintWords Go.Proofs.YtbjgcfbmifpepaaW.PrintLast Go.Proofs.YtbjgcfbmifpepaaW.PrintMore Go.Proofs.Ytbjgcfbmifpepaa.Bas Go.Proofs.Ytbjgcfbmifpepaa.Nm
set_option linter.unusedVariables false
set_option linter.unusedSimpArgs false

theorem NumClamps : mapmakerlaw01_NumClamps.Pure := by
  intro x lo hi _ _ _
  refine Ev.rounds (Ev.congr (fun k => by rw [mapmakerlaw01_NumClamps.f]) ?_)
  obtain ⟨r, hr⟩ : ∃ r, num_Clamp.f x lo hi = some r := by
    unfold num_Clamp.f
    repeat' split
    all_goals exact ⟨_, rfl⟩
  have hr2 : mapmakerref01_Clamp.f x lo hi = some r := hr
  exact Ev.bind (Ev_const hr) (Ev.bind (Ev_const hr2) (Ev_pos rfl fin_ev))

end Go.Proofs.Ytbjgcfbmifpepaa.Pure
