/- Point and Index invert each other. -/
import Derived.Test.YtffpomipmnlnjaaHiP
import Derived.Test.YtffpomipmnlnjaaPAllx12
namespace Go.Proofs.Ytffpomipmnlnjaa.Pure
open Go.RowKit Go.Proofs.Ytffpomipmnlnjaa.PAll Go.Proofs.YtffpomipmnlnjaaW.PrintWords Go.Proofs.YtffpomipmnlnjaaW.PrintLast Go.Proofs.YtffpomipmnlnjaaW.PrintMore Go.Proofs.Ytffpomipmnlnjaa.Bas Go.Proofs.Ytffpomipmnlnjaa.Hi
set_option linter.unusedVariables false
set_option linter.unusedSimpArgs false

theorem pnt_idx {x y : Int} (h : Vd x y) : pnt (idx x y) = (x, y) := by
  have b := hx_bd 15 x y h
  unfold idx
  rw [if_pos h]
  unfold pnt
  rw [if_pos ⟨b.1, b.2⟩]
  exact hp_hx 15 x y h
theorem idx_pnt {i : Int} (h0 : 0 ≤ i) (h1 : i < 1073741824) : idx (pnt i).1 (pnt i).2 = i := by
  unfold pnt
  rw [if_pos ⟨h0, h1⟩]
  unfold idx
  rw [if_pos (show Vd (hp 15 i).1 (hp 15 i).2 from hp_bd 15 i)]
  exact hx_hp 15 i h0 h1
theorem HilbertBack : mapmakerlaw10_HilbertBack.Pure := by
  intro x y i hp' hi
  refine Ev.rounds (Ev.congr (fun k => by rw [mapmakerlaw10_HilbertBack.f]) ?_)
  have j0 : ∀ t : Bool, t = false → Ev (fun k => mapmakerlaw10_HilbertBack.j0 k i t) true := by
    intro t ht
    refine Ev_round (fun k => by rw [mapmakerlaw10_HilbertBack.j0]) (Ev_neg (by rw [ht]; decide) ?_)
    by_cases c : i ≥ 0
    · refine Ev_pos c ?_
      by_cases d : i < 1073741824
      · exact Ev_pos d (Ev.bind (Point_both i).1 (Ev.bind (Index_ev _ _) (Ev_pos (idx_pnt c d) fin_ev)))
      · exact Ev_neg d fin_ev
    · exact Ev_neg c fin_ev
  by_cases c1 : x ≥ 0
  · refine Ev_pos c1 ?_
    by_cases c2 : x < 32768
    · refine Ev_pos c2 ?_
      by_cases c3 : y ≥ 0
      · refine Ev_pos c3 ?_
        by_cases c4 : y < 32768
        · refine Ev_pos c4 (Ev.bind (Index_ev x y) (Ev.bind (Point_both _).1 (j0 _ ?_)))
          rw [pnt_idx ⟨c1, c2, c3, c4⟩]
          simp
        · exact Ev_neg c4 (j0 _ rfl)
      · exact Ev_neg c3 (j0 _ rfl)
    · exact Ev_neg c2 (j0 _ rfl)
  · exact Ev_neg c1 (j0 _ rfl)

end Go.Proofs.Ytffpomipmnlnjaa.Pure
