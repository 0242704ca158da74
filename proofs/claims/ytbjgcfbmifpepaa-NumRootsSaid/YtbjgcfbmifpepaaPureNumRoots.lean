/- Sqrt returns the integer square root, and recovers every number from its square: for all numbers. -/
import Derived.Test.YtbjgcfbmifpepaaNmS
import Derived.Test.YtbjgcfbmifpepaaNmL
import Derived.Test.YtbjgcfbmifpepaaPAllx20
namespace Go.Proofs.Ytbjgcfbmifpepaa.Pure
open Go.RowKit Go.Proofs.Ytbjgcfbmifpepaa.PAll Go.Proofs.YtbjgcfbmifpepaaW.PrintWords Go.Proofs.YtbjgcfbmifpepaaW.PrintLast Go.Proofs.YtbjgcfbmifpepaaW.PrintMore Go.Proofs.Ytbjgcfbmifpepaa.Bas Go.Proofs.Ytbjgcfbmifpepaa.Nm
set_option linter.unusedVariables false
set_option linter.unusedSimpArgs false

theorem NumRoots : mapmakerlaw01_NumRoots.Pure := by
  intro n k hn hk
  have hn := isI hn
  have hk := isI hk
  refine Ev.rounds (Ev.congr (fun k => by rw [mapmakerlaw01_NumRoots.f]) ?_)
  have j : ∀ t : Bool, t = false → Ev (fun m => mapmakerlaw01_NumRoots.j0 m n t) true := by
    intro t ht
    subst ht
    refine Ev_round (fun k => by rw [mapmakerlaw01_NumRoots.j0]) (Ev_neg (by decide) ?_)
    obtain ⟨r, hr, he⟩ := Sqrt_ev hn
    obtain ⟨s, hs, hf⟩ := rSqrt_ev hn
    obtain rfl := rt_one hr hs
    exact Ev.bind he (Ev.bind hf (Ev_pos rfl fin_ev))
  by_cases c : k ≥ 0
  · refine Ev_pos c ?_
    by_cases c2 : k ≤ 3037000499
    · refine Ev_pos c2 ?_
      have hb : k * k ≤ 3037000499 * 3037000499 := mul_mono c c2 c c2
      have hb0 : 0 ≤ k * k := Int.mul_nonneg c c
      have hi : IsI (k * k) := ⟨by omega, by omega⟩
      rw [wrap_in hi]
      obtain ⟨r, hr, he⟩ := Sqrt_ev hi
      obtain rfl := rt_one hr (rt_sq c)
      exact Ev.bind he (j _ (by simp))
    · exact Ev_neg c2 (j _ rfl)
  · exact Ev_neg c (j _ rfl)

end Go.Proofs.Ytbjgcfbmifpepaa.Pure
