/- Meets is symmetric, a Join contains both boxes, and Dist2 is 0 exactly for the points that a box contains: for any boxes and point. -/
import Derived.Test.YtdoafdcfkhdgnaaGr
import Derived.Test.YtdoafdcfkhdgnaaGrL
import Derived.Test.YtdoafdcfkhdgnaaPAllx30
namespace Go.Proofs.Ytdoafdcfkhdgnaa.Pure
open Go.RowKit Go.Proofs.Ytdoafdcfkhdgnaa.PAll Go.Proofs.YtdoafdcfkhdgnaaW.PrintWords Go.Proofs.YtdoafdcfkhdgnaaW.PrintLast Go.Proofs.YtdoafdcfkhdgnaaW.PrintMore Go.Proofs.Ytdoafdcfkhdgnaa.Bas Go.Proofs.Ytdoafdcfkhdgnaa.Gr
set_option linter.unusedVariables false

theorem fin_ev : Ev (fun k => (mapmakerlaw08_lives.f k).bind fun t => some t) true := Ev.bind lives_ev (Ev.now _)
theorem out_zero {x a c : Int} (h : a ≤ c) : out x a c = 0 ↔ a ≤ x ∧ x ≤ c := by
  have := clamp_self (x := x) h
  unfold out
  omega
theorem sq_zero {a : Int} : a * a = 0 ↔ a = 0 := by
  constructor
  · intro h
    rcases Int.mul_eq_zero.1 h with h | h <;> exact h
  · intro h
    rw [h]
    rfl
theorem sq_nn (a : Int) : 0 ≤ a * a := by
  rcases Int.le_total 0 a with h | h
  · exact Int.mul_nonneg h h
  · rw [← Int.neg_mul_neg]
    exact Int.mul_nonneg (by omega) (by omega)
theorem sq_mono {u v : Int} (h : -v ≤ u ∧ u ≤ v ∨ v ≤ u ∧ u ≤ -v) : u * u ≤ v * v := by
  have e : ∀ s t : Int, 0 ≤ t → -t ≤ s → s ≤ t → s * s ≤ t * t := by
    intro s t ht h1 h2
    rcases Int.le_total 0 s with hs | hs
    · exact Int.mul_le_mul h2 h2 hs ht
    · rw [← Int.neg_mul_neg s s]
      exact Int.mul_le_mul (by omega) (by omega) (by omega) ht
  rcases h with ⟨h1, h2⟩ | ⟨h1, h2⟩
  · exact e u v (by omega) h1 h2
  · rw [← Int.neg_mul_neg v v]
    exact e u (-v) (by omega) (by omega) (by omega)
theorem out_less {x a c a' c' : Int} (h : a ≤ c) (h1 : a' ≤ a) (h2 : c ≤ c') : out x a' c' * out x a' c' ≤ out x a c * out x a c := by
  refine sq_mono ?_
  unfold out clamp
  repeat' split
  all_goals omega
theorem j2_ev (a b c d x y a' b' c' d' : Int) (t : Bool) (ht : t = false) (g : Gd a b c d) (g' : Gd a' b' c' d') (v : Vd x y) (hs : a' ≤ a ∧ b' ≤ b ∧ c ≤ c' ∧ d ≤ d') :
    Ev (fun k => mapmakerlaw08_GridMeets.j2 k t a b c d x y a' b' c' d') true := by
  subst ht
  refine Ev_round (fun k => by rw [mapmakerlaw08_GridMeets.j2]) (Ev_neg (by decide) ?_)
  have d1 : dist2 a b c d x y = out x a c * out x a c + out y b d * out y b d := if_pos ⟨g, v⟩
  have d2 : dist2 a' b' c' d' x y = out x a' c' * out x a' c' + out y b' d' * out y b' d' := if_pos ⟨g', v⟩
  have z1 := sq_nn (out x a c)
  have z2 := sq_nn (out y b d)
  have m1 := out_less (x := x) g.2.1 hs.1 hs.2.2.1
  have m2 := out_less (x := y) g.2.2.2.2.1 hs.2.1 hs.2.2.2
  refine Ev.bind (Ev_const (Dist2_eq _ _ _ _ _ _)) (Ev.bind (Ev_const (Holds_eq _ _ _ _ _ _)) (Ev_pos ?_ ?_))
  · rw [beq_iff_eq, Bool.eq_iff_iff, beq_iff_eq, decide_eq_true_eq, d1]
    have s1 : out x a c * out x a c = 0 ↔ a ≤ x ∧ x ≤ c := sq_zero.trans (out_zero g.2.1)
    have s2 : out y b d * out y b d = 0 ↔ b ≤ y ∧ y ≤ d := sq_zero.trans (out_zero g.2.2.2.2.1)
    unfold Hd
    constructor
    · intro h
      have h1 := s1.1 (by omega)
      have h2 := s2.1 (by omega)
      exact ⟨g, v, h1.1, h1.2, h2.1, h2.2⟩
    · rintro ⟨_, _, h1, h2, h3, h4⟩
      have := s1.2 ⟨h1, h2⟩
      have := s2.2 ⟨h3, h4⟩
      omega
  · refine Ev.bind (Ev_const (Dist2_eq _ _ _ _ _ _)) (Ev.bind (Ev_const (Dist2_eq _ _ _ _ _ _)) (Ev_pos (by rw [d1, d2]; omega) (Ev.bind (Ev_const (Dist2_eq _ _ _ _ _ _)) (Ev_pos (by rw [d1]; omega) fin_ev))))
theorem j1_ev (a b c d a0 b0 c0 d0 x y a' b' c' d' : Int) (t : Bool) (ht : t = false) (g : Gd a b c d) (g0 : Gd a0 b0 c0 d0) (g' : Gd a' b' c' d') (v : Vd x y) (hs : a' ≤ a ∧ b' ≤ b ∧ c ≤ c' ∧ d ≤ d') :
    Ev (fun k => mapmakerlaw08_GridMeets.j1 k t a b c d a0 b0 c0 d0 x y a' b' c' d') true := by
  subst ht
  refine Ev_round (fun k => by rw [mapmakerlaw08_GridMeets.j1]) (Ev_neg (by decide) ?_)
  have j : ∀ t : Bool, t = false → Ev (fun k => mapmakerlaw08_GridMeets.j2 k t a b c d x y a' b' c' d') true := fun t ht => j2_ev _ _ _ _ _ _ _ _ _ _ t ht g g' v hs
  have up : Hd a b c d x y → Hd a' b' c' d' x y := fun ⟨_, _, h1, h2, h3, h4⟩ => ⟨g', v, by omega, by omega, by omega, by omega⟩
  refine Ev.bind (Ev_const (Holds_eq _ _ _ _ _ _)) ?_
  by_cases h : Hd a b c d x y
  · refine Ev_pos (by simpa using h) (Ev.bind (Ev_const (Holds_eq _ _ _ _ _ _)) ?_)
    have last : Ev (fun k => (grid_Holds.f a b c d x y).bind fun t => if t = true then (grid_Holds.f a' b' c' d' x y).bind fun t => mapmakerlaw08_GridMeets.j2 k (!t) a b c d x y a' b' c' d' else mapmakerlaw08_GridMeets.j2 k false a b c d x y a' b' c' d') true := by
      refine Ev.bind (Ev_const (Holds_eq _ _ _ _ _ _)) (Ev_pos (by simpa using h) (Ev.bind (Ev_const (Holds_eq _ _ _ _ _ _)) (j _ ?_)))
      simpa using up h
    by_cases h2 : Hd a0 b0 c0 d0 x y
    · refine Ev_pos (by simpa using h2) (Ev.bind (Ev_const (Meets_eq _ _ _ _ _ _ _ _)) (Ev_pos ?_ last))
      obtain ⟨_, _, h3, h4, h5, h6⟩ := h
      obtain ⟨_, _, h7, h8, h9, h10⟩ := h2
      simp only [decide_eq_true_eq]
      exact ⟨g, g0, by omega, by omega, by omega, by omega⟩
    · exact Ev_neg (by simpa using h2) last
  · refine Ev_neg (by simpa using h) (Ev.bind (Ev_const (Holds_eq _ _ _ _ _ _)) (Ev_neg (by simpa using h) (j _ rfl)))
theorem j0_bad (a b c d a0 b0 c0 d0 x y : Int) (t : Bool) (ht : t = true) : Ev (fun k => mapmakerlaw08_GridMeets.j0 k t a b c d a0 b0 c0 d0 x y) true := by
  refine Ev_round (fun k => by rw [mapmakerlaw08_GridMeets.j0]) (Ev_pos ht ?_)
  refine Ev.bind (Ev_const (Meets_eq _ _ _ _ _ _ _ _)) ?_
  by_cases m : Mt a b c d a0 b0 c0 d0
  · refine Ev_pos (by simpa using m) (Ev.bind (Ev_const (Check_eq _ _ _ _)) (Ev_pos (if_pos m.1) (Ev.bind (Ev_const (Check_eq _ _ _ _)) (Ev_pos (if_pos m.2.1) fin_ev))))
  · exact Ev_neg (by simpa using m) fin_ev
theorem GridMeets : mapmakerlaw08_GridMeets.Pure := by
  intro a b c d a0 b0 c0 d0 x y _ _ _
  refine Ev.rounds ?_
  refine Ev.congr (fun k => by rw [mapmakerlaw08_GridMeets.f]) ?_
  refine Ev.bind (Ev_const (Check_eq _ _ _ _)) ?_
  by_cases g : Gd a b c d
  · refine Ev_pos (if_pos g) (Ev.bind (Ev_const (Check_eq _ _ _ _)) ?_)
    by_cases g0 : Gd a0 b0 c0 d0
    · refine Ev_pos (if_pos g0) (Ev.bind (Ev_const (Valid_eq _ _)) ?_)
      by_cases v : Vd x y
      · refine Ev_round (fun k => by rw [mapmakerlaw08_GridMeets.j0]) (Ev_neg (by simpa using v) ?_)
        have hj : join a b c d a0 b0 c0 d0 = (min a a0, min b b0, max c c0, max d d0) := if_pos ⟨g, g0⟩
        have g2 := g
        have g3 := g0
        obtain ⟨h1, h2, h3, h4, h5, h6⟩ := g
        obtain ⟨k1, k2, k3, k4, k5, k6⟩ := g0
        have gj : Gd (min a a0) (min b b0) (max c c0) (max d d0) := ⟨by omega, by omega, by omega, by omega, by omega, by omega⟩
        refine Ev.bind (Ev_const (Join_eq _ _ _ _ _ _ _ _)) (Ev.bind (Ev_const (Meets_eq _ _ _ _ _ _ _ _)) (Ev.bind (Ev_const (Meets_eq _ _ _ _ _ _ _ _)) (Ev_neg ?_ ?_)))
        · have : Mt a b c d a0 b0 c0 d0 ↔ Mt a0 b0 c0 d0 a b c d := by
            unfold Mt
            constructor
            · rintro ⟨p1, p2, p3, p4, p5, p6⟩
              exact ⟨p2, p1, p4, p3, p6, p5⟩
            · rintro ⟨p1, p2, p3, p4, p5, p6⟩
              exact ⟨p2, p1, p4, p3, p6, p5⟩
          simp [this]
        · rw [hj]
          simp only []
          have j1 : join a b c d (min a a0) (min b b0) (max c c0) (max d d0) = (min a a0, min b b0, max c c0, max d d0) := by
            unfold join
            rw [if_pos ⟨g2, gj⟩]
            refine Prod.ext ?_ (Prod.ext ?_ (Prod.ext ?_ ?_)) <;> simp only [] <;> omega
          have j2 : join a0 b0 c0 d0 (min a a0) (min b b0) (max c c0) (max d d0) = (min a a0, min b b0, max c c0, max d d0) := by
            unfold join
            rw [if_pos ⟨g3, gj⟩]
            refine Prod.ext ?_ (Prod.ext ?_ (Prod.ext ?_ ?_)) <;> simp only [] <;> omega
          have j3 : join a0 b0 c0 d0 a b c d = (min a a0, min b b0, max c c0, max d d0) := by
            unfold join
            rw [if_pos ⟨g3, g2⟩]
            refine Prod.ext ?_ (Prod.ext ?_ (Prod.ext ?_ ?_)) <;> simp only [] <;> omega
          refine Ev.bind (Ev_const (Meets_eq _ _ _ _ _ _ _ _)) (Ev_pos ?_ ?_)
          · simp only [decide_eq_true_eq]
            exact ⟨g2, gj, by omega, by omega, by omega, by omega⟩
          · refine Ev.bind (Ev_const (Join_eq _ _ _ _ _ _ _ _)) (Ev_neg (by rw [j1]; simp) ?_)
            refine Ev.bind (Ev_const (Join_eq _ _ _ _ _ _ _ _)) (Ev_neg (by rw [j2]; simp) ?_)
            refine Ev.bind (Ev_const (Join_eq _ _ _ _ _ _ _ _)) (j1_ev _ _ _ _ _ _ _ _ _ _ _ _ _ _ _ (by rw [j3]; simp) g2 g3 gj v ⟨by omega, by omega, by omega, by omega⟩)
      · exact j0_bad _ _ _ _ _ _ _ _ _ _ _ (by simpa using v)
    · exact Ev_neg (by rw [if_neg g0]; decide) (j0_bad _ _ _ _ _ _ _ _ _ _ _ rfl)
  · exact Ev_neg (by rw [if_neg g]; decide) (j0_bad _ _ _ _ _ _ _ _ _ _ _ rfl)

end Go.Proofs.Ytdoafdcfkhdgnaa.Pure
