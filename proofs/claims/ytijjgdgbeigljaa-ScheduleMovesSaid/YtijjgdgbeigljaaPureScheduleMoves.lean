/- A schedule is open at the time that Next returns, which is less than a day later; Next is monotonic; no schedule that Check rejects is ever open: for every schedule and times. -/
import Derived.Test.YtijjgdgbeigljaaScB
import Derived.Test.YtijjgdgbeigljaaPAllx16
namespace Go.Proofs.Ytijjgdgbeigljaa.Pure
open Go.RowKit Go.Proofs.Ytijjgdgbeigljaa.PAll Go.Proofs.YtijjgdgbeigljaaW.PrintWords Go.Proofs.YtijjgdgbeigljaaW.PrintLast Go.Proofs.YtijjgdgbeigljaaW.PrintMore Go.Proofs.Ytijjgdgbeigljaa.Bas Go.Proofs.Ytijjgdgbeigljaa.Sc
set_option linter.unusedVariables false

/-- What the search finds. -/
theorem srch_spec (p : Int → Bool) (t : Int) (n : Nat) : ∀ i : Int, 0 ≤ i →
    (∃ a, srch p t n i = (a, true) ∧ t + i ≤ a ∧ a < t + i + n ∧ p (a % 1440) = true ∧ ∀ b, t + i ≤ b → b < a → p (b % 1440) = false) ∨
    (srch p t n i = (0, false) ∧ ∀ b, t + i ≤ b → b < t + i + n → p (b % 1440) = false) := by
  induction n with
  | zero => intro i _; exact .inr ⟨rfl, fun b h1 h2 => by omega⟩
  | succ n ih =>
    intro i hi
    by_cases c : p ((t + i) % 1440) = true
    · refine .inl ⟨t + i, by simp [srch, c], by omega, by omega, c, fun b h1 h2 => by omega⟩
    · have c' : p ((t + i) % 1440) = false := by simpa using c
      have first : ∀ b, t + i ≤ b → ¬ t + (i + 1) ≤ b → p (b % 1440) = false := fun b h1 h2 => by
        obtain rfl : b = t + i := by omega
        exact c'
      rcases ih (i + 1) (by omega) with ⟨a, h1, h2, h3, h4, h5⟩ | ⟨h1, h2⟩
      · refine .inl ⟨a, by simp [srch, c', h1], by omega, by omega, h4, fun b hb1 hb2 => ?_⟩
        by_cases hb : t + (i + 1) ≤ b
        · exact h5 b hb hb2
        · exact first b hb1 hb
      · refine .inr ⟨by simp [srch, c', h1], fun b hb1 hb2 => ?_⟩
        by_cases hb : t + (i + 1) ≤ b
        · exact h2 b hb (by omega)
        · exact first b hb1 hb
theorem opn_valid {l : List S35} {f e t : Int} (hc : Check l f e = 0) (h0 : 0 ≤ t) : opn l f e t = minute l f e (t % 1440) := by simp [opn, hc, h0]
theorem next_valid {l : List S35} {f e t : Int} (hc : Check l f e = 0) (h0 : 0 ≤ t) (h1 : t ≤ 1152921504606846976) : next l f e t = srch (minute l f e) t 1440 0 := by
  unfold next
  rw [if_pos ⟨hc, h1⟩, show max t 0 = t by omega]
theorem next_bad {l : List S35} {f e : Int} (t : Int) (hc : ¬ Check l f e = 0) : next l f e t = (0, false) := by
  unfold next
  rw [if_neg (fun h => hc h.1)]
theorem opn_bad {l : List S35} {f e : Int} (t : Int) (hc : ¬ Check l f e = 0) : opn l f e t = false := by simp [opn, hc]

theorem ScheduleMoves : mapmakerlaw07_ScheduleMoves.Pure := by
  intro l f e t u ⟨⟨hl0, _⟩, _⟩ _ _
  have hl := len_ok hl0
  refine Ev.rounds ?_
  refine Ev.congr (fun k => by rw [mapmakerlaw07_ScheduleMoves.f]) ?_
  have dead : ∀ b : Bool, b = true → Ev (fun k => mapmakerlaw07_ScheduleMoves.j0 k t u b l f e) true := fun b hb => Ev_round (fun k => by rw [mapmakerlaw07_ScheduleMoves.j0]) (Ev_pos hb (Ev.bind lives_ev (Ev.now _)))
  by_cases c : (l.length : Int) > 40
  · exact Ev_pos c (dead _ rfl)
  refine Ev_neg c ?_
  by_cases c1 : t < 0
  · exact Ev_pos c1 (dead _ rfl)
  refine Ev_neg c1 ?_
  by_cases c2 : u < t
  · exact Ev_pos c2 (dead _ rfl)
  refine Ev_neg c2 ?_
  by_cases c3 : u > 1099511627776
  · exact dead _ (by simpa using c3)
  refine Ev_round (fun k => by rw [mapmakerlaw07_ScheduleMoves.j0]) (Ev_neg (by simpa using c3) ?_)
  refine Ev.bind (next_ev l f e hl t) (Ev.bind (next_ev l f e hl u) (Ev.bind (check_ev l f e hl) ?_))
  by_cases hc : Check l f e = 0
  · refine Ev_pos hc ?_
    rw [next_valid hc (by omega) (by omega), next_valid hc (show 0 ≤ u by omega) (by omega), wrap_in (x := t + 1440) ⟨by omega, by omega⟩, wrap_in (x := u + 1440) ⟨by omega, by omega⟩]
    have ot := opn_valid (l := l) (f := f) (e := e) hc (show 0 ≤ t by omega)
    have ou := opn_valid (l := l) (f := f) (e := e) hc (show 0 ≤ u by omega)
    rcases srch_spec (minute l f e) t 1440 0 (by omega) with ⟨a, ha, h1, h2, h3, h4⟩ | ⟨ha, h4⟩
    · rcases srch_spec (minute l f e) u 1440 0 (by omega) with ⟨b, hb, g1, g2, g3, g4⟩ | ⟨hb, g4⟩
      · rw [ha, hb]
        have hab : a ≤ b := by
          by_cases z : a ≤ b
          · exact z
          · have := h4 b (by omega) (by omega)
            rw [g3] at this
            cases this
        refine Ev_neg (by simp) (Ev_pos rfl (Ev_pos (by simp only []; omega) (Ev_pos (by simp only []; omega) (Ev_pos (by simp only []; omega) (Ev_pos (by simp only []; omega) (Ev_pos hab ?_))))))
        refine Ev.bind (open_ev l f e hl a) (Ev_pos (by rw [opn_valid hc (by omega)]; exact h3) ?_)
        refine Ev.bind (open_ev l f e hl b) (Ev_pos (by rw [opn_valid hc (by omega)]; exact g3) ?_)
        refine Ev.bind (open_ev l f e hl t) (Ev_pos ?_ (Ev_pos ?_ (Ev.bind lives_ev (Ev.now _))))
        · rw [ot]
          by_cases z : a = t
          · subst z
            simp [h3]
          · have := h4 t (by omega) (by omega)
            simp [this, z]
        · by_cases z : a ≥ u
          · have : a = b := by
              by_cases y : a = b
              · exact y
              · have := g4 a (by omega) (by omega)
                rw [h3] at this
                cases this
            simp [this]
            omega
          · have : ¬ b = a := by omega
            simp [z, this]
      · exfalso
        have := g4 (a + (u - a + 1439) / 1440 * 1440) (by omega) (by omega)
        rw [Int.add_mul_emod_self_right] at this
        rw [h3] at this
        cases this
    · rcases srch_spec (minute l f e) u 1440 0 (by omega) with ⟨b, hb, g1, g2, g3, g4⟩ | ⟨hb, g4⟩
      · exfalso
        have := h4 (b - (b - t) / 1440 * 1440) (by omega) (by omega)
        rw [Int.sub_mul_emod_self_right] at this
        rw [g3] at this
        cases this
      · rw [ha, hb]
        refine Ev_neg (by decide) (Ev_neg (by decide) (Ev_pos rfl (Ev_pos rfl ?_)))
        refine Ev.bind (open_ev l f e hl t) (Ev_neg ?_ (Ev.bind (open_ev l f e hl u) (Ev_neg ?_ (Ev.bind lives_ev (Ev.now _)))))
        · rw [ot, h4 t (by omega) (by omega)]
          decide
        · rw [ou, g4 u (by omega) (by omega)]
          decide
  · refine Ev_neg hc ?_
    rw [next_bad t hc, next_bad u hc]
    refine Ev_neg (by decide) (Ev_neg (by decide) (Ev_pos rfl (Ev_pos rfl ?_)))
    refine Ev.bind (open_ev l f e hl t) (Ev_neg (by rw [opn_bad t hc]; decide) (Ev.bind (free_ev l f e hl) (Ev_neg ?_ (Ev.bind lives_ev (Ev.now _)))))
    have : Free l f e = (opn l f e 0 && fre (opn l f e) 1439 (0 + 1)) := rfl
    rw [this, opn_bad 0 hc]
    simp

end Go.Proofs.Ytijjgdgbeigljaa.Pure
