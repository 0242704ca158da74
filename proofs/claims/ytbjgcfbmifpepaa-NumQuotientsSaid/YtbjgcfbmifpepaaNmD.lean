/- RoundDiv, and the reference's FloorDiv and RoundDiv. -/
import Derived.Test.YtbjgcfbmifpepaaNmF
import Derived.Test.YtbjgcfbmifpepaaPAllx4
import Derived.Test.YtbjgcfbmifpepaaPAllx16
import Derived.Test.YtbjgcfbmifpepaaPAllx17
namespace Go.Proofs.Ytbjgcfbmifpepaa.Nm
open Go.RowKit Go.Proofs.Ytbjgcfbmifpepaa.PAll Go.Proofs.YtbjgcfbmifpepaaW.PrintWords Go.Proofs.YtbjgcfbmifpepaaW.PrintLast Go.Proofs.YtbjgcfbmifpepaaW.PrintMore Go.Proofs.Ytbjgcfbmifpepaa.Bas
set_option linter.unusedVariables false
set_option linter.unusedSimpArgs false

theorem tmod_sign (a : Int) {b : Int} (hb : 0 < b) : (a.tmod b < 0 ↔ a < 0 ∧ a.tmod b ≠ 0) ∧ -b < a.tmod b ∧ a.tmod b < b ∧ (0 ≤ a → 0 ≤ a.tmod b) := by
  rcases Int.le_total 0 a with h | h
  · rw [tmod_nn h]
    have h1 := Int.emod_nonneg a (show b ≠ 0 by omega)
    have h2 := Int.emod_lt_of_pos a hb
    omega
  · obtain ⟨n, rfl⟩ : ∃ n, a = -n := ⟨-a, by omega⟩
    have hn : 0 ≤ n := by omega
    rw [Int.neg_tmod, tmod_nn hn]
    have h1 := Int.emod_nonneg n (show b ≠ 0 by omega)
    have h2 := Int.emod_lt_of_pos n hb
    refine ⟨⟨fun h => ⟨?_, by omega⟩, fun h => by omega⟩, by omega, by omega, fun h => ?_⟩
    · by_cases hz : n = 0
      · subst hz
        simp at h
      · omega
    · have : n = 0 := by omega
      subst this
      simp
theorem rFloorDiv_eq {a b : Int} (ha : IsI a) (hb : 0 < b) : mapmakerref01_FloorDiv.f a b = some (a / b) := by
  rw [← FloorDiv_eq ha hb]
  unfold mapmakerref01_FloorDiv.f num_FloorDiv.f
  rw [if_neg (show ¬ b ≤ 0 by omega), if_neg (show ¬ b ≤ 0 by omega), if_neg (show ¬ b = 0 by omega), if_neg (show ¬ b = 0 by omega)]
  have h := (tmod_sign a hb).1
  by_cases c : a < 0
  · rw [if_pos c]
    by_cases c2 : a.tmod b = 0
    · rw [if_pos c2, if_neg (by omega)]
    · rw [if_neg c2, if_pos (by omega)]
  · rw [if_neg c, if_neg (by omega)]
theorem rFloorDiv_no {a b : Int} (hb : b ≤ 0) : mapmakerref01_FloorDiv.f a b = some 0 := if_pos hb

/-- RoundDiv, plainly. -/
def rnd (a b : Int) : Int := if b ≤ 0 then 0 else if a % b ≥ b - a % b then wrap64 (a / b + 1) else a / b
theorem emod_of_tmod (a : Int) {b : Int} (hb : 0 < b) : (if a.tmod b < 0 then a.tmod b + b else a.tmod b) = a % b := by
  have hf := floor_eq a hb
  have h1 := Int.mul_tdiv_add_tmod a b
  have h2 := Int.mul_ediv_add_emod a b
  by_cases c : a.tmod b < 0
  · rw [if_pos c] at hf ⊢
    rw [← hf, Int.mul_sub] at h2
    omega
  · rw [if_neg c] at hf ⊢
    rw [← hf] at h2
    omega
theorem RoundDiv_ev {a b : Int} (ha : IsI a) (hb' : IsI b) : Ev (fun k => num_RoundDiv.f k a b) (rnd a b) := by
  refine Ev.congr (fun k => by rw [num_RoundDiv.f]) ?_
  unfold rnd
  by_cases c : b ≤ 0
  · rw [if_pos c]
    exact Ev_pos c (Ev.now _)
  · rw [if_neg c]
    have hb : 0 < b := by omega
    have he := emod_of_tmod a hb
    obtain ⟨_, t1, t2, _⟩ := tmod_sign a hb
    have m1 := Int.emod_nonneg a (show b ≠ 0 by omega)
    have m2 := Int.emod_lt_of_pos a hb
    unfold IsI at hb'
    have j : Ev (fun k => num_RoundDiv.j0 k a b (a % b)) (if a % b ≥ b - a % b then wrap64 (a / b + 1) else a / b) := by
      refine Ev_round (fun k => by rw [num_RoundDiv.j0]) ?_
      rw [wrap_in (x := b - a % b) ⟨by omega, by omega⟩]
      exact Ev_ite (fun _ => Ev.bind (Ev_const (FloorDiv_eq ha hb)) (Ev.now _)) (fun _ => Ev.bind (Ev_const (FloorDiv_eq ha hb)) (Ev.now _))
    refine Ev_neg c (Ev_neg (by omega) ?_)
    by_cases c2 : a.tmod b < 0
    · rw [if_pos c2] at he
      refine Ev_pos c2 ?_
      rw [wrap_in (x := a.tmod b + b) ⟨by omega, by omega⟩, he]
      exact j
    · rw [if_neg c2] at he
      refine Ev_neg c2 ?_
      rw [he]
      exact j
theorem rRoundDiv_ev {a b : Int} (ha : IsI a) (hb' : IsI b) : Ev (fun k => mapmakerref01_RoundDiv.f k a b) (rnd a b) := by
  refine Ev.congr (fun k => by rw [mapmakerref01_RoundDiv.f]) ?_
  unfold rnd
  by_cases c : b ≤ 0
  · rw [if_pos c]
    exact Ev_pos c (Ev.now _)
  · rw [if_neg c]
    have hb : 0 < b := by omega
    have he := emod_of_tmod a hb
    obtain ⟨_, t1, t2, _⟩ := tmod_sign a hb
    have m1 := Int.emod_nonneg a (show b ≠ 0 by omega)
    have m2 := Int.emod_lt_of_pos a hb
    unfold IsI at hb'
    have j : Ev (fun k => mapmakerref01_RoundDiv.j0 k a b (a % b)) (if a % b ≥ b - a % b then wrap64 (a / b + 1) else a / b) := by
      refine Ev_round (fun k => by rw [mapmakerref01_RoundDiv.j0]) ?_
      rw [wrap_in (x := b - a % b) ⟨by omega, by omega⟩]
      exact Ev_ite (fun _ => Ev.bind (Ev_const (rFloorDiv_eq ha hb)) (Ev.now _)) (fun _ => Ev.bind (Ev_const (rFloorDiv_eq ha hb)) (Ev.now _))
    refine Ev_neg c (Ev_neg (by omega) ?_)
    by_cases c2 : a.tmod b < 0
    · rw [if_pos c2] at he
      refine Ev_pos c2 ?_
      rw [wrap_in (x := a.tmod b + b) ⟨by omega, by omega⟩, he]
      exact j
    · rw [if_neg c2] at he
      refine Ev_neg c2 ?_
      rw [he]
      exact j
end Go.Proofs.Ytbjgcfbmifpepaa.Nm
