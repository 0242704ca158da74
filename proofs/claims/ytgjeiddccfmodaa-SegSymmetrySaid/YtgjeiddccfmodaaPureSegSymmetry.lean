/- Relate does not depend on the order of the segments and on their directions, and a segment overlaps itself: for any segments. -/
import Derived.Test.YtgjeiddccfmodaaSgN
import Derived.Test.YtgjeiddccfmodaaSgL
import Derived.Test.YtgjeiddccfmodaaPAllx34
namespace Go.Proofs.Ytgjeiddccfmodaa.Pure
open Go.RowKit Go.Proofs.Ytgjeiddccfmodaa.PAll Go.Proofs.YtgjeiddccfmodaaW.PrintWords Go.Proofs.YtgjeiddccfmodaaW.PrintLast Go.Proofs.YtgjeiddccfmodaaW.PrintMore Go.Proofs.Ytgjeiddccfmodaa.Bas Go.Proofs.Ytgjeiddccfmodaa.Sg
set_option linter.unusedVariables false
set_option linter.unusedSimpArgs false

theorem rel_self {a b : S23} (ha : vd a) (hb : vd b) (h : a ≠ b) : rel a b a b = 3 := by
  have x : ¬ Cross a b a b := by
    have := (cr_self (a := a) (b := b)).1
    unfold Cross opp
    omega
  have s := on_self ha hb
  have t : Two a b a b := ⟨a, b, .inl rfl, .inr (.inl rfl), h, ⟨s.1, s.1⟩, s.2, s.2⟩
  unfold rel cls
  rw [if_pos ⟨ha, hb, ha, hb, h, h⟩, if_neg x, if_pos t]
theorem rel_bd (a b c d : S23) : 0 ≤ rel a b c d ∧ rel a b c d ≤ 3 := by
  unfold rel cls
  repeat' split
  all_goals decide
theorem SegSymmetry : mapmakerlaw09_SegSymmetry.Pure := by
  intro a0 a1 b0 b1 c0 c1 d0 d1 hs ht
  refine Ev.rounds (Ev.congr (fun k => by rw [mapmakerlaw09_SegSymmetry.f]) ?_)
  have R := fun (p q r s : Int × Int) => Relate_ev ⟨p.1, p.2⟩ ⟨q.1, q.2⟩ ⟨r.1, r.2⟩ ⟨s.1, s.2⟩
  have bd := rel_bd ⟨a0, a1⟩ ⟨b0, b1⟩ ⟨c0, c1⟩ ⟨d0, d1⟩
  refine Ev.bind (R (a0, a1) (b0, b1) (c0, c1) (d0, d1)) (Ev.bind (R (c0, c1) (d0, d1) (a0, a1) (b0, b1)) (Ev_pos rel_turn ?_))
  refine Ev.bind (R (b0, b1) (a0, a1) (c0, c1) (d0, d1)) (Ev_pos rel_swap (Ev.bind (R (c0, c1) (d0, d1) (b0, b1) (a0, a1)) ?_))
  refine Ev_round (fun k => by rw [mapmakerlaw09_SegSymmetry.j0]) (Ev_neg ?_ ?_)
  · show ¬ (rel ⟨c0, c1⟩ ⟨d0, d1⟩ ⟨b0, b1⟩ ⟨a0, a1⟩ != rel ⟨a0, a1⟩ ⟨b0, b1⟩ ⟨c0, c1⟩ ⟨d0, d1⟩) = true
    rw [rel_swap2, rel_turn]
    simp
  · have fin : Ev (fun k => if rel ⟨a0, a1⟩ ⟨b0, b1⟩ ⟨c0, c1⟩ ⟨d0, d1⟩ ≥ 0 then (if rel ⟨a0, a1⟩ ⟨b0, b1⟩ ⟨c0, c1⟩ ⟨d0, d1⟩ ≤ 3 then ((mapmakerlaw09_lives.f k).bind fun t => (some t)) else none) else none) true :=
      Ev_pos bd.1 (Ev_pos bd.2 fin_ev)
    refine Ev.bind (Ev_const (rValid_eq _ _)) ?_
    by_cases va : Vd a0 a1
    · refine Ev_pos (by simpa using va) (Ev.bind (Ev_const (rValid_eq _ _)) ?_)
      by_cases vb : Vd b0 b1
      · refine Ev_pos (by simpa using vb) ?_
        by_cases e : (!(a0 == b0) || (!(a1 == b1))) = true
        · have ne : (⟨a0, a1⟩ : S23) ≠ ⟨b0, b1⟩ := by
            rw [S_ne]
            intro h
            have h1 : a0 = b0 := h.1
            have h2 : a1 = b1 := h.2
            simp [h1, h2] at e
          refine Ev_pos e (Ev.bind (R (a0, a1) (b0, b1) (a0, a1) (b0, b1)) (Ev_pos (rel_self va vb ne) (Ev.bind (R (a0, a1) (b0, b1) (b0, b1) (a0, a1)) (Ev_pos ?_ fin))))
          show rel ⟨a0, a1⟩ ⟨b0, b1⟩ ⟨b0, b1⟩ ⟨a0, a1⟩ = 3
          rw [rel_swap2]
          exact rel_self va vb ne
        · exact Ev_neg e fin
      · exact Ev_neg (by simpa using vb) fin
    · exact Ev_neg (by simpa using va) fin

end Go.Proofs.Ytgjeiddccfmodaa.Pure
