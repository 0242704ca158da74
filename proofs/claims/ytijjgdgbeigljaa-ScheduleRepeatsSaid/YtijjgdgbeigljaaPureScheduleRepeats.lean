/- A schedule repeats every day: Open is the same a number of days later, and Next is shifted by as many days: for every schedule, time and number of days. -/
import Derived.Test.YtijjgdgbeigljaaScB
import Derived.Test.YtijjgdgbeigljaaPAllx17
namespace Go.Proofs.Ytijjgdgbeigljaa.Pure
open Go.RowKit Go.Proofs.Ytijjgdgbeigljaa.PAll Go.Proofs.YtijjgdgbeigljaaW.PrintWords Go.Proofs.YtijjgdgbeigljaaW.PrintLast Go.Proofs.YtijjgdgbeigljaaW.PrintMore Go.Proofs.Ytijjgdgbeigljaa.Bas Go.Proofs.Ytijjgdgbeigljaa.Sc
set_option linter.unusedVariables false

/-- What the search finds. -/
theorem srch_spec (p : Int → Bool) (t : Int) (n : Nat) : ∀ i : Int, 0 ≤ i →
    (∃ a, srch p t n i = (a, true) ∧ t + i ≤ a ∧ a < t + i + n ∧ p (a % 1440) = true ∧ ∀ b, t + i ≤ b → b < a → p (b % 1440) = false) ∨
    (srch p t n i = (0, false) ∧ ∀ b, t + i ≤ b → b < t + i + n → p (b % 1440) = false) := by
  induction n with
  | zero => intro i _; exact .inr ⟨rfl, fun b h1 h2 => by omega⟩
  | succ n ih =>
    intro i hi
    by_cases c : p ((t + i) % 1440) = true
    · refine .inl ⟨t + i, by simp [srch, c], by omega, by omega, c, fun b h1 h2 => by omega⟩
    · have c' : p ((t + i) % 1440) = false := by simpa using c
      have first : ∀ b, t + i ≤ b → ¬ t + (i + 1) ≤ b → p (b % 1440) = false := fun b h1 h2 => by
        obtain rfl : b = t + i := by omega
        exact c'
      rcases ih (i + 1) (by omega) with ⟨a, h1, h2, h3, h4, h5⟩ | ⟨h1, h2⟩
      · refine .inl ⟨a, by simp [srch, c', h1], by omega, by omega, h4, fun b hb1 hb2 => ?_⟩
        by_cases hb : t + (i + 1) ≤ b
        · exact h5 b hb hb2
        · exact first b hb1 hb
      · refine .inr ⟨by simp [srch, c', h1], fun b hb1 hb2 => ?_⟩
        by_cases hb : t + (i + 1) ≤ b
        · exact h2 b hb (by omega)
        · exact first b hb1 hb
theorem opn_valid {l : List S35} {f e t : Int} (hc : Check l f e = 0) (h0 : 0 ≤ t) : opn l f e t = minute l f e (t % 1440) := by simp [opn, hc, h0]
theorem next_valid {l : List S35} {f e t : Int} (hc : Check l f e = 0) (h0 : 0 ≤ t) (h1 : t ≤ 1152921504606846976) : next l f e t = srch (minute l f e) t 1440 0 := by
  unfold next
  rw [if_pos ⟨hc, h1⟩, show max t 0 = t by omega]
theorem next_bad {l : List S35} {f e : Int} (t : Int) (hc : ¬ Check l f e = 0) : next l f e t = (0, false) := by
  unfold next
  rw [if_neg (fun h => hc h.1)]
theorem opn_bad {l : List S35} {f e : Int} (t : Int) (hc : ¬ Check l f e = 0) : opn l f e t = false := by simp [opn, hc]

theorem srch_shift (p : Int → Bool) (t d : Int) (n : Nat) : ∀ i : Int, srch p (t + d * 1440) n i = if (srch p t n i).2 = true then ((srch p t n i).1 + d * 1440, true) else (0, false) := by
  induction n with
  | zero => intro i; rfl
  | succ n ih =>
    intro i
    unfold srch
    rw [show (t + d * 1440 + i) % 1440 = (t + i) % 1440 by omega]
    by_cases c : p ((t + i) % 1440) = true
    · rw [if_pos c, if_pos c, if_pos rfl]
      congr 1
      omega
    · rw [if_neg c, if_neg c]
      exact ih (i + 1)
theorem ScheduleRepeats : mapmakerlaw07_ScheduleRepeats.Pure := by
  intro l f e t d ⟨⟨hl0, _⟩, _⟩ _ _
  have hl := len_ok hl0
  refine Ev.rounds ?_
  refine Ev.congr (fun k => by rw [mapmakerlaw07_ScheduleRepeats.f]) ?_
  have dead : ∀ b : Bool, b = true → Ev (fun k => mapmakerlaw07_ScheduleRepeats.j0 k t d b l f e) true := fun b hb => Ev_round (fun k => by rw [mapmakerlaw07_ScheduleRepeats.j0]) (Ev_pos hb (Ev.bind lives_ev (Ev.now _)))
  by_cases c : (l.length : Int) > 40
  · exact Ev_pos c (dead _ rfl)
  refine Ev_neg c ?_
  by_cases c1 : t < 0
  · exact Ev_pos c1 (dead _ rfl)
  refine Ev_neg c1 ?_
  by_cases c2 : t > 1099511627776
  · exact Ev_pos c2 (dead _ rfl)
  refine Ev_neg c2 ?_
  by_cases c3 : d < 0
  · exact Ev_pos c3 (dead _ rfl)
  refine Ev_neg c3 ?_
  by_cases c4 : d > 1000
  · exact dead _ (by simpa using c4)
  refine Ev_round (fun k => by rw [mapmakerlaw07_ScheduleRepeats.j0]) (Ev_neg (by simpa using c4) ?_)
  rw [wrap_in (x := d * 1440) ⟨by omega, by omega⟩, wrap_in (x := t + d * 1440) ⟨by omega, by omega⟩]
  refine Ev.bind (next_ev l f e hl t) (Ev.bind (next_ev l f e hl _) (Ev.bind (open_ev l f e hl t) (Ev.bind (open_ev l f e hl _) ?_)))
  by_cases hc : Check l f e = 0
  · rw [opn_valid hc (show 0 ≤ t by omega), opn_valid hc (show 0 ≤ t + d * 1440 by omega), show (t + d * 1440) % 1440 = t % 1440 by omega]
    refine Ev_pos (by simp) ?_
    rw [next_valid hc (by omega) (by omega), next_valid hc (show 0 ≤ t + d * 1440 by omega) (by omega), srch_shift]
    rcases srch_spec (minute l f e) t 1440 0 (by omega) with ⟨a, ha, h1, h2, h3, h4⟩ | ⟨ha, h4⟩
    · rw [ha]
      refine Ev_pos (by simp) (Ev_pos rfl (Ev_pos ?_ (Ev.bind lives_ev (Ev.now _))))
      rw [if_pos rfl]
      exact (wrap_in ⟨by omega, by omega⟩).symm
    · rw [ha]
      exact Ev_pos (by simp) (Ev_neg (by decide) (Ev.bind lives_ev (Ev.now _)))
  · rw [opn_bad _ hc, opn_bad _ hc, next_bad _ hc, next_bad _ hc]
    exact Ev_pos rfl (Ev_pos rfl (Ev_neg (by decide) (Ev.bind lives_ev (Ev.now _))))

end Go.Proofs.Ytijjgdgbeigljaa.Pure
