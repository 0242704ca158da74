/- Center gives a coordinate that is projected to the point, and projected coordinates are grid points that depend on Lon and Lat monotonically: for any point and coordinates. -/
import Derived.Test.YtdoafdcfkhdgnaaGrF
import Derived.Test.YtdoafdcfkhdgnaaGrL
import Derived.Test.YtdoafdcfkhdgnaaPAllx35
namespace Go.Proofs.Ytdoafdcfkhdgnaa.Pure
open Go.RowKit Go.Proofs.Ytdoafdcfkhdgnaa.PAll Go.Proofs.YtdoafdcfkhdgnaaW.PrintWords Go.Proofs.YtdoafdcfkhdgnaaW.PrintLast Go.Proofs.YtdoafdcfkhdgnaaW.PrintMore Go.Proofs.Ytdoafdcfkhdgnaa.Bas Go.Proofs.Ytdoafdcfkhdgnaa.Gr
set_option linter.unusedVariables false

theorem proj_vd {lon lat : Int} (h : (proj lon lat).2.2 = 0) : Vd (proj lon lat).1 (proj lon lat).2.1 := by
  unfold proj at h ⊢
  split at h
  · rename_i c
    rw [if_pos c]
    show Vd (min ((lon + 1800000000) * 32768 / 3600000000) 32767) (min ((900000000 - lat) * 32768 / 1800000000) 32767)
    exact ⟨by omega, by omega, by omega, by omega⟩
  · simp at h
theorem j1_ev (a b c d : Int) : Ev (fun k => mapmakerlaw08_GridInverse.j1 k (proj a b).2.2 (proj c d).2.2 false a b c d (proj a b).1 (proj a b).2.1 (proj c d).1 (proj c d).2.1) true := by
  refine Ev_round (fun k => by rw [mapmakerlaw08_GridInverse.j1]) (Ev_neg (by decide) ?_)
  have fin : Ev (fun k => (mapmakerlaw08_lives.f k).bind fun t => some t) true := Ev.bind lives_ev (Ev.now _)
  by_cases e1 : (proj a b).2.2 = 0
  · refine Ev_pos e1 ?_
    by_cases e2 : (proj c d).2.2 = 0
    · refine Ev_pos e2 ?_
      have p1 : proj a b = (min ((a + 1800000000) * 32768 / 3600000000) 32767, min ((900000000 - b) * 32768 / 1800000000) 32767, 0) ∧ (-1800000000 ≤ a ∧ a ≤ 1800000000 ∧ -900000000 ≤ b ∧ b ≤ 900000000) := by
        unfold proj at e1 ⊢
        split at e1
        · rename_i g
          exact ⟨if_pos g, g⟩
        · simp at e1
      have p2 : proj c d = (min ((c + 1800000000) * 32768 / 3600000000) 32767, min ((900000000 - d) * 32768 / 1800000000) 32767, 0) ∧ (-1800000000 ≤ c ∧ c ≤ 1800000000 ∧ -900000000 ≤ d ∧ d ≤ 900000000) := by
        unfold proj at e2 ⊢
        split at e2
        · rename_i g
          exact ⟨if_pos g, g⟩
        · simp at e2
      rw [p1.1, p2.1]
      by_cases m1 : a ≤ c
      · refine Ev_pos m1 (Ev_neg (by simp only []; omega) ?_)
        by_cases m2 : b ≤ d
        · exact Ev_pos m2 (Ev_neg (by simp only []; omega) fin)
        · exact Ev_neg m2 fin
      · refine Ev_neg m1 ?_
        by_cases m2 : b ≤ d
        · exact Ev_pos m2 (Ev_neg (by simp only []; omega) fin)
        · exact Ev_neg m2 fin
    · exact Ev_neg e2 fin
  · exact Ev_neg e1 fin
theorem j0_ev (a b c d : Int) (t : Bool) (ht : t = false) : Ev (fun k => mapmakerlaw08_GridInverse.j0 k t a b c d) true := by
  subst ht
  refine Ev_round (fun k => by rw [mapmakerlaw08_GridInverse.j0]) (Ev_neg (by decide) ?_)
  refine Ev.bind (Project_ev _ _) (Ev.bind (Project_ev _ _) ?_)
  by_cases e1 : (proj a b).2.2 = 0
  · refine Ev_pos e1 (Ev.bind (Ev_const (Valid_eq _ _)) ?_)
    have e : (!decide (Vd (proj a b).1 (proj a b).2.1)) = false := by simp [proj_vd e1]
    rw [e]
    exact j1_ev a b c d
  · exact Ev_neg e1 (j1_ev a b c d)
theorem GridInverse : mapmakerlaw08_GridInverse.Pure := by
  intro x y a b c d _ _ _
  refine Ev.rounds ?_
  refine Ev.congr (fun k => by rw [mapmakerlaw08_GridInverse.f]) ?_
  refine Ev.bind (Ev_const (Center_eq _ _)) (Ev.bind (Project_ev _ _) (Ev.bind (Ev_const (Valid_eq _ _)) ?_))
  by_cases v : Vd x y
  · have hc : cent x y = ((2 * x + 1) * 1800000000 / 32768 - 1800000000, 900000000 - (2 * y + 1) * 900000000 / 32768, 0) := by
      unfold cent
      rw [if_pos v]
    rw [hc]
    obtain ⟨v1, v2, v3, v4⟩ := id v
    have hp : proj ((2 * x + 1) * 1800000000 / 32768 - 1800000000) (900000000 - (2 * y + 1) * 900000000 / 32768) = (x, y, 0) := by
      unfold proj
      rw [if_pos ⟨by omega, by omega, by omega, by omega⟩]
      refine Prod.ext ?_ (Prod.ext ?_ rfl)
      · simp only []
        omega
      · simp only []
        omega
    simp only []
    rw [hp]
    exact Ev_neg (by simp [v]) (Ev_pos (by simp) (Ev_pos (by simp) (j0_ev _ _ _ _ _ (by simp))))
  · have hc : cent x y = (0, 0, 11) := by
      unfold cent
      rw [if_neg v]
    rw [hc]
    exact Ev_neg (by simp [v]) (Ev_neg (by decide) (j0_ev _ _ _ _ _ rfl))

end Go.Proofs.Ytdoafdcfkhdgnaa.Pure
