/- Turn and its arguments' order; a point is on a segment exactly if its distance is 0: for any points. -/
import Derived.Test.YtgjeiddccfmodaaSgF
import Derived.Test.YtgjeiddccfmodaaSgM
import Derived.Test.YtgjeiddccfmodaaSgL
import Derived.Test.YtgjeiddccfmodaaPAllx35
namespace Go.Proofs.Ytgjeiddccfmodaa.Pure
open Go.RowKit Go.Proofs.Ytgjeiddccfmodaa.PAll Go.Proofs.YtgjeiddccfmodaaW.PrintWords Go.Proofs.YtgjeiddccfmodaaW.PrintLast Go.Proofs.YtgjeiddccfmodaaW.PrintMore Go.Proofs.Ytgjeiddccfmodaa.Bas Go.Proofs.Ytgjeiddccfmodaa.Sg
set_option linter.unusedVariables false
set_option linter.unusedSimpArgs false

theorem trn_turn (a0 a1 b0 b1 c0 c1 : Int) : trn b0 b1 c0 c1 a0 a1 = trn a0 a1 b0 b1 c0 c1 := by
  unfold trn
  have e : V3 b0 b1 c0 c1 a0 a1 ↔ V3 a0 a1 b0 b1 c0 c1 := ⟨fun h => ⟨h.2.2, h.1, h.2.1⟩, fun h => ⟨h.2.1, h.2.2, h.1⟩⟩
  have f : cr b0 b1 c0 c1 a0 a1 = cr a0 a1 b0 b1 c0 c1 := by
    unfold cr
    grind
  simp only [e, f]
theorem trn_swap (a0 a1 b0 b1 c0 c1 : Int) : trn b0 b1 a0 a1 c0 c1 = -trn a0 a1 b0 b1 c0 c1 := by
  unfold trn
  have e : V3 b0 b1 a0 a1 c0 c1 ↔ V3 a0 a1 b0 b1 c0 c1 := ⟨fun h => ⟨h.2.1, h.1, h.2.2⟩, fun h => ⟨h.2.1, h.1, h.2.2⟩⟩
  have f : cr b0 b1 a0 a1 c0 c1 = -cr a0 a1 b0 b1 c0 c1 := by
    unfold cr
    grind
  simp only [e, f]
  split <;> omega
theorem trn_bd (a0 a1 b0 b1 c0 c1 : Int) : -2147483648 ≤ trn a0 a1 b0 b1 c0 c1 ∧ trn a0 a1 b0 b1 c0 c1 ≤ 2147483648 := by
  unfold trn
  split
  · rename_i h
    exact (cr_wrap h).2
  · decide
section
variable {p0 p1 a0 a1 b0 b1 : Int}
theorem d2_comm : d2 a0 a1 b0 b1 = d2 b0 b1 a0 a1 := by
  unfold d2
  grind
theorem dot_back : dot p0 p1 b0 b1 a0 a1 = d2 a0 a1 b0 b1 - dot p0 p1 a0 a1 b0 b1 := by
  unfold dot d2
  grind
theorem far_swap : far p0 p1 b0 b1 a0 a1 = far p0 p1 a0 a1 b0 b1 := by
  unfold far
  have e : V3 p0 p1 b0 b1 a0 a1 ↔ V3 p0 p1 a0 a1 b0 b1 := ⟨fun h => ⟨h.1, h.2.2, h.2.1⟩, fun h => ⟨h.1, h.2.2, h.2.1⟩⟩
  have f : cr b0 b1 a0 a1 p0 p1 = -cr a0 a1 b0 b1 p0 p1 := by
    unfold cr
    grind
  have g : (b0 = a0 ∧ b1 = a1) ∨ dot p0 p1 b0 b1 a0 a1 ≤ 0 ∨ dot p0 p1 b0 b1 a0 a1 ≥ d2 b0 b1 a0 a1 ↔ (a0 = b0 ∧ a1 = b1) ∨ dot p0 p1 a0 a1 b0 b1 ≤ 0 ∨ dot p0 p1 a0 a1 b0 b1 ≥ d2 a0 a1 b0 b1 := by
    rw [dot_back, d2_comm (a0 := b0)]
    omega
  simp only [e, g, f, Int.neg_mul_neg]
  rw [d2_comm (a0 := b0) (a1 := b1) (b0 := a0) (b1 := a1), Int.min_comm (d2 p0 p1 b0 b1)]
theorem sq_zero {a : Int} : a * a = 0 ↔ a = 0 := by
  constructor
  · intro h
    rcases Int.mul_eq_zero.1 h with h | h <;> exact h
  · intro h
    rw [h]
    rfl
theorem d2_zero : d2 a0 a1 b0 b1 = 0 ↔ a0 = b0 ∧ a1 = b1 := by
  have n1 := sq_nn (a0 - b0)
  have n2 := sq_nn (a1 - b1)
  have z1 := sq_zero (a := a0 - b0)
  have z2 := sq_zero (a := a1 - b1)
  unfold d2
  constructor
  · intro h
    have := z1.1 (by omega)
    have := z2.1 (by omega)
    omega
  · rintro ⟨h1, h2⟩
    have := z1.2 (by omega)
    have := z2.2 (by omega)
    omega
theorem d2_nn : 0 ≤ d2 a0 a1 b0 b1 := by
  have n1 := sq_nn (a0 - b0)
  have n2 := sq_nn (a1 - b1)
  unfold d2
  omega
theorem far_pos : (V3 p0 p1 a0 a1 b0 b1 → 0 < (far p0 p1 a0 a1 b0 b1).2) ∧ (¬ V3 p0 p1 a0 a1 b0 b1 → (far p0 p1 a0 a1 b0 b1).2 = 0) ∧ 0 ≤ (far p0 p1 a0 a1 b0 b1).1 := by
  have n0 := d2_nn (a0 := a0) (a1 := a1) (b0 := b0) (b1 := b1)
  have n1 := d2_nn (a0 := p0) (a1 := p1) (b0 := b0) (b1 := b1)
  have n2 := d2_nn (a0 := p0) (a1 := p1) (b0 := a0) (b1 := a1)
  have z := d2_zero (a0 := a0) (a1 := a1) (b0 := b0) (b1 := b1)
  have s := sq_nn (cr a0 a1 b0 b1 p0 p1)
  unfold far
  refine ⟨fun h => ?_, fun h => by rw [if_neg h], ?_⟩
  · rw [if_pos h]
    split
    · exact Int.one_pos
    · rename_i c
      show 0 < d2 a0 a1 b0 b1
      omega
  · repeat' split
    · show 0 ≤ min _ _
      omega
    · exact s
    · exact Int.le_refl 0
/-- Between 0 and u, if it is a part of u. -/
theorem part {L u x t : Int} (hL : 0 < L) (h0 : 0 ≤ t) (h1 : t ≤ L) (h : x * L = u * t) : (0 ≤ u → 0 ≤ x ∧ x ≤ u) ∧ (u ≤ 0 → u ≤ x ∧ x ≤ 0) := by
  have le : ∀ s, 0 ≤ s → 0 ≤ s * t ∧ s * t ≤ s * L := fun s hs => ⟨Int.mul_nonneg hs h0, Int.mul_le_mul_of_nonneg_left h1 hs⟩
  constructor
  · intro hu
    have := le u hu
    exact ⟨Int.le_of_mul_le_mul_right (by omega) hL, Int.le_of_mul_le_mul_right (by omega) hL⟩
  · intro hu
    have := le (-u) (by omega)
    rw [Int.neg_mul, Int.neg_mul] at this
    exact ⟨Int.le_of_mul_le_mul_right (by omega) hL, Int.le_of_mul_le_mul_right (by omega) hL⟩
theorem same_sign {u x : Int} (h : 0 ≤ u ∧ 0 ≤ x ∨ u ≤ 0 ∧ x ≤ 0) : 0 ≤ u * x := by
  rcases h with ⟨h1, h2⟩ | ⟨h1, h2⟩
  · exact Int.mul_nonneg h1 h2
  · rw [← Int.neg_mul_neg]
    exact Int.mul_nonneg (by omega) (by omega)
/-- On a segment, at or before its first end: at it. -/
theorem at_end (h : On p0 p1 a0 a1 b0 b1) (hd : (a0 = b0 ∧ a1 = b1) ∨ dot p0 p1 a0 a1 b0 b1 ≤ 0) : p0 = a0 ∧ p1 = a1 := by
  obtain ⟨_, hz, h1, h2, h3, h4⟩ := h
  rcases hd with hd | hd
  · omega
  · have s1 := same_sign (u := b0 - a0) (x := p0 - a0) (by omega)
    have s2 := same_sign (u := b1 - a1) (x := p1 - a1) (by omega)
    unfold dot at hd
    unfold cr at hz
    have z1 : (b0 - a0) * (p0 - a0) = 0 := by omega
    have z2 : (b1 - a1) * (p1 - a1) = 0 := by omega
    by_cases c0 : b0 - a0 = 0
    · by_cases c1 : b1 - a1 = 0
      · omega
      · have := (Int.mul_eq_zero.1 z2).resolve_left c1
        omega
    · have w0 := (Int.mul_eq_zero.1 z1).resolve_left c0
      by_cases c1 : b1 - a1 = 0
      · omega
      · have w1 := (Int.mul_eq_zero.1 z2).resolve_left c1
        omega
theorem on_first (h : V3 p0 p1 a0 a1 b0 b1) (e : p0 = a0 ∧ p1 = a1) : On p0 p1 a0 a1 b0 b1 := by
  refine ⟨h, ?_, ?_⟩
  · unfold cr
    rw [e.1, e.2]
    grind
  · omega
theorem On_swap : On p0 p1 b0 b1 a0 a1 ↔ On p0 p1 a0 a1 b0 b1 := on_swap (p := ⟨p0, p1⟩) (a := ⟨a0, a1⟩) (b := ⟨b0, b1⟩)
theorem far_on (h : V3 p0 p1 a0 a1 b0 b1) : (far p0 p1 a0 a1 b0 b1).1 = 0 ↔ On p0 p1 a0 a1 b0 b1 := by
  have h' : V3 p0 p1 b0 b1 a0 a1 := ⟨h.1, h.2.2, h.2.1⟩
  unfold far
  rw [if_pos h]
  by_cases c : (a0 = b0 ∧ a1 = b1) ∨ dot p0 p1 a0 a1 b0 b1 ≤ 0 ∨ dot p0 p1 a0 a1 b0 b1 ≥ d2 a0 a1 b0 b1
  · rw [if_pos c]
    have n1 := d2_nn (a0 := p0) (a1 := p1) (b0 := b0) (b1 := b1)
    have n2 := d2_nn (a0 := p0) (a1 := p1) (b0 := a0) (b1 := a1)
    show min _ _ = 0 ↔ _
    constructor
    · intro m
      have : d2 p0 p1 a0 a1 = 0 ∨ d2 p0 p1 b0 b1 = 0 := by omega
      rcases this with e | e
      · exact on_first h (d2_zero.1 e)
      · exact On_swap.1 (on_first h' (d2_zero.1 e))
    · intro o
      have : d2 p0 p1 a0 a1 = 0 ∨ d2 p0 p1 b0 b1 = 0 := by
        rcases c with c | c | c
        · exact .inl (d2_zero.2 (at_end o (.inl c)))
        · exact .inl (d2_zero.2 (at_end o (.inr c)))
        · exact .inr (d2_zero.2 (at_end (On_swap.2 o) (.inr (by rw [dot_back]; omega))))
      omega
  · rw [if_neg c]
    show cr _ _ _ _ _ _ * _ = 0 ↔ _
    rw [sq_zero]
    constructor
    · intro z
      have z' := z
      unfold cr at z'
      have pos : 0 < d2 a0 a1 b0 b1 := by
        have := d2_nn (a0 := a0) (a1 := a1) (b0 := b0) (b1 := b1)
        have := d2_zero (a0 := a0) (a1 := a1) (b0 := b0) (b1 := b1)
        omega
      have e0 : (p0 - a0) * d2 a0 a1 b0 b1 = (b0 - a0) * dot p0 p1 a0 a1 b0 b1 := by
        have : (p0 - a0) * d2 a0 a1 b0 b1 - (b0 - a0) * dot p0 p1 a0 a1 b0 b1 = -(b1 - a1) * ((b0 - a0) * (p1 - a1) - (b1 - a1) * (p0 - a0)) := by
          unfold d2 dot
          grind
        rw [z', Int.mul_zero] at this
        omega
      have e1 : (p1 - a1) * d2 a0 a1 b0 b1 = (b1 - a1) * dot p0 p1 a0 a1 b0 b1 := by
        have : (p1 - a1) * d2 a0 a1 b0 b1 - (b1 - a1) * dot p0 p1 a0 a1 b0 b1 = (b0 - a0) * ((b0 - a0) * (p1 - a1) - (b1 - a1) * (p0 - a0)) := by
          unfold d2 dot
          grind
        rw [z', Int.mul_zero] at this
        omega
      have q0 := part pos (by omega) (by omega) e0
      have q1 := part pos (by omega) (by omega) e1
      refine ⟨h, z, ?_⟩
      rcases Int.le_total 0 (b0 - a0) with s | s <;> rcases Int.le_total 0 (b1 - a1) with t | t
      · have := q0.1 s; have := q1.1 t; omega
      · have := q0.1 s; have := q1.2 t; omega
      · have := q0.2 s; have := q1.1 t; omega
      · have := q0.2 s; have := q1.2 t; omega
    · exact fun o => o.2.1
end
theorem SegCycles : mapmakerlaw09_SegCycles.Pure := by
  intro a0 a1 b0 b1 c0 c1 ha hb hc
  refine Ev.rounds (Ev.congr (fun k => by rw [mapmakerlaw09_SegCycles.f]) ?_)
  have bd := trn_bd a0 a1 b0 b1 c0 c1
  refine Ev.bind (Turn_ev _ _ _ _ _ _) (Ev.bind (Turn_ev _ _ _ _ _ _) (Ev_pos (trn_turn _ _ _ _ _ _) (Ev.bind (Turn_ev _ _ _ _ _ _) (Ev_pos (by rw [trn_turn, trn_turn]) (Ev.bind (Turn_ev _ _ _ _ _ _) ?_)))))
  refine Ev_round (fun k => by rw [mapmakerlaw09_SegCycles.j0]) (Ev_neg ?_ ?_)
  · rw [trn_swap, wrap_in ⟨by omega, by omega⟩]
    simp
  refine Ev.bind (Far_ev _ _ _ _ _ _) (Ev.bind (Far_ev _ _ _ _ _ _) (Ev_pos (by rw [far_swap]) (Ev_pos (by rw [far_swap]) ?_)))
  obtain ⟨f1, f2, f3⟩ := far_pos (p0 := c0) (p1 := c1) (a0 := a0) (a1 := a1) (b0 := b0) (b1 := b1)
  refine Ev_round (fun k => by rw [mapmakerlaw09_SegCycles.j1]) (Ev_neg (by simp; omega) ?_)
  have on2 : decide (On c0 c1 b0 b1 a0 a1) = decide (On c0 c1 a0 a1 b0 b1) := by simp only [On_swap]
  have j2 : ∀ t : Bool, (t = true ↔ V3 c0 c1 a0 a1 b0 b1) → Ev (fun k => mapmakerlaw09_SegCycles.j2 k (far c0 c1 a0 a1 b0 b1).1 (far c0 c1 a0 a1 b0 b1).2 t a0 a1 b0 b1 c0 c1) true := by
    intro t ht
    refine Ev_round (fun k => by rw [mapmakerlaw09_SegCycles.j2]) ?_
    by_cases v : V3 c0 c1 a0 a1 b0 b1
    · have p := f1 v
      rw [ht.2 v]
      refine Ev_pos (by simpa using p) (Ev_pos rfl (Ev.bind (On_ev _ _ _ _ _ _) (Ev_pos ?_ (Ev.bind (On_ev _ _ _ _ _ _) (Ev.bind (On_ev _ _ _ _ _ _) (Ev_pos (by rw [on2]; simp) fin_ev))))))
      rw [beq_iff_eq, Bool.eq_iff_iff, beq_iff_eq, decide_eq_true_iff]
      exact far_on v
    · have p := f2 v
      have e : t = false := by
        cases t
        · rfl
        · exact absurd (ht.1 rfl) v
      rw [e, p]
      exact Ev_pos (by simp) (Ev_neg (by simp) (Ev.bind (On_ev _ _ _ _ _ _) (Ev.bind (On_ev _ _ _ _ _ _) (Ev_pos (by rw [on2]; simp) fin_ev))))
  refine Ev.bind (Ev_const (rValid_eq _ _)) ?_
  by_cases va : Vd a0 a1
  · refine Ev_pos (by simpa using va) (Ev.bind (Ev_const (rValid_eq _ _)) ?_)
    by_cases vb : Vd b0 b1
    · refine Ev_pos (by simpa using vb) (Ev.bind (Ev_const (rValid_eq _ _)) (j2 _ ?_))
      rw [decide_eq_true_iff]
      exact ⟨fun h => ⟨h, va, vb⟩, fun h => h.1⟩
    · exact Ev_neg (by simpa using vb) (j2 _ ⟨fun h => by simp at h, fun h => absurd h.2.2 vb⟩)
  · exact Ev_neg (by simpa using va) (j2 _ ⟨fun h => by simp at h, fun h => absurd h.2.1 va⟩)

end Go.Proofs.Ytgjeiddccfmodaa.Pure
