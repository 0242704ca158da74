/- The points at consecutive positions have distance 1. -/
import Derived.Test.YtffpomipmnlnjaaHiP
import Derived.Test.YtffpomipmnlnjaaPAllx13
namespace Go.Proofs.Ytffpomipmnlnjaa.Pure
open Go.RowKit Go.Proofs.Ytffpomipmnlnjaa.PAll Go.Proofs.YtffpomipmnlnjaaW.PrintWords Go.Proofs.YtffpomipmnlnjaaW.PrintLast Go.Proofs.YtffpomipmnlnjaaW.PrintMore Go.Proofs.Ytffpomipmnlnjaa.Bas Go.Proofs.Ytffpomipmnlnjaa.Hi
set_option linter.unusedVariables false
set_option linter.unusedSimpArgs false

/-- One step apart. -/
def Near (p q : Int × Int) : Prop := p.1 = q.1 ∧ (p.2 = q.2 + 1 ∨ q.2 = p.2 + 1) ∨ p.2 = q.2 ∧ (p.1 = q.1 + 1 ∨ q.1 = p.1 + 1)
theorem hp_zero (k : Nat) : hp k 0 = (0, 0) := by
  induction k with
  | zero => rfl
  | succ k ih => rw [hp, Int.zero_ediv, Int.zero_emod, ih, if_pos rfl]
theorem hp_last (k : Nat) : hp k (4 ^ k - 1) = (2 ^ k - 1, 0) := by
  induction k with
  | zero => rfl
  | succ k ih =>
    have g := p4 k
    obtain ⟨d, m⟩ := div_add (q := 3) (r := 4 ^ k - 1) g (by omega) (by omega)
    have e : (4 : Int) ^ (k + 1) - 1 = 3 * 4 ^ k + (4 ^ k - 1) := by rw [s4]; omega
    rw [hp, e, d, m, ih, if_neg (by decide), if_neg (by decide), if_neg (by decide), s2]
    show (2 * 2 ^ k - 1 - 0, 2 ^ k - 1 - (2 ^ k - 1)) = _
    rw [Int.sub_self, Int.sub_zero]
theorem near_step (k : Nat) : ∀ i : Int, 0 ≤ i → i + 1 < 4 ^ k → Near (hp k i) (hp k (i + 1)) := by
  induction k with
  | zero =>
    intro i h0 h1
    have : (4 : Int) ^ 0 = 1 := rfl
    omega
  | succ k ih =>
    intro i h0 h1
    have g := p4 k
    have e := Int.mul_ediv_add_emod i (4 ^ k)
    have m0 := Int.emod_nonneg i (show (4 : Int) ^ k ≠ 0 by omega)
    have m1 := Int.emod_lt_of_pos i g
    have d0 := Int.ediv_nonneg h0 (show (0 : Int) ≤ 4 ^ k by omega)
    rw [s4] at h1
    have d1 : i / 4 ^ k < 4 := Int.ediv_lt_of_lt_mul g (by omega)
    have z := hp_zero k
    have l := hp_last k
    rw [Int.mul_comm] at e
    have ih' := ih (i % 4 ^ k) m0
    by_cases c : i % 4 ^ k + 1 < 4 ^ k
    · obtain ⟨d, m⟩ := div_add (q := i / 4 ^ k) (r := i % 4 ^ k + 1) g (by omega) c
      have e2 : i + 1 = i / 4 ^ k * 4 ^ k + (i % 4 ^ k + 1) := by omega
      have n := ih' c
      rw [hp, hp, e2, d, m]
      generalize hp k (i % 4 ^ k) = P at *
      generalize hp k (i % 4 ^ k + 1) = Q at *
      unfold Near at *
      repeat' split
      all_goals (simp only []; omega)
    · have r : i % 4 ^ k = 4 ^ k - 1 := by omega
      obtain ⟨d, m⟩ := div_add (q := i / 4 ^ k + 1) (r := 0) g (by omega) g
      have e2 : i + 1 = (i / 4 ^ k + 1) * 4 ^ k + 0 := by rw [Int.add_mul]; omega
      rw [hp, hp, e2, d, m, r, z, l]
      have b : i / 4 ^ k ≠ 3 := by
        intro x
        rw [x, r] at e
        omega
      generalize i / 4 ^ k = q at *
      have : q = 0 ∨ q = 1 ∨ q = 2 := by omega
      unfold Near
      rcases this with rfl | rfl | rfl <;> simp <;> omega
theorem HilbertSteps : mapmakerlaw10_HilbertSteps.Pure := by
  intro i hi
  refine Ev.rounds (Ev.congr (fun k => by rw [mapmakerlaw10_HilbertSteps.f]) ?_)
  have out : ∀ t : Bool, t = true → Ev (fun k => mapmakerlaw10_HilbertSteps.j0 k i t) true := fun t ht =>
    Ev_round (fun k => by rw [mapmakerlaw10_HilbertSteps.j0]) (Ev_pos ht fin_ev)
  by_cases c1 : i < 0
  · exact Ev_pos c1 (out _ rfl)
  · refine Ev_neg c1 ?_
    by_cases c2 : i ≥ 1073741823
    · exact out _ (by simpa using c2)
    · refine Ev_round (fun k => by rw [mapmakerlaw10_HilbertSteps.j0]) (Ev_neg (by simpa using c2) ?_)
      rw [wrap_in (x := i + 1) ⟨by omega, by omega⟩]
      refine Ev.bind (Point_both i).1 (Ev.bind (Point_both (i + 1)).1 (Ev_pos ?_ fin_ev))
      have n := near_step 15 i (by omega) (show i + 1 < 1073741824 by omega)
      have b1 := hp_bd 15 i
      have b2 := hp_bd 15 (i + 1)
      have p1 : pnt i = hp 15 i := if_pos ⟨by omega, by omega⟩
      have p2 : pnt (i + 1) = hp 15 (i + 1) := if_pos ⟨by omega, by omega⟩
      rw [p1, p2]
      unfold Sq at b1 b2
      have t : (2 : Int) ^ 15 = 32768 := by decide
      rw [t] at b1 b2
      generalize hp 15 i = P at *
      generalize hp 15 (i + 1) = Q at *
      unfold Near at n
      rw [wrap_in (x := P.1 - Q.1) ⟨by omega, by omega⟩, wrap_in (x := P.2 - Q.2) ⟨by omega, by omega⟩]
      have h : (P.1 - Q.1 = 0 ∧ (P.2 - Q.2 = 1 ∨ P.2 - Q.2 = -1)) ∨ (P.2 - Q.2 = 0 ∧ (P.1 - Q.1 = 1 ∨ P.1 - Q.1 = -1)) := by omega
      rcases h with ⟨h1, h2 | h2⟩ | ⟨h1, h2 | h2⟩ <;> rw [h1, h2] <;> decide +kernel

end Go.Proofs.Ytffpomipmnlnjaa.Pure
