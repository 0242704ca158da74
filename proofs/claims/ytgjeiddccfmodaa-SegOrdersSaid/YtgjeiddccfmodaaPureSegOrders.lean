/- Nearer is a comparison, and the distance from a segment is at most that from its ends: for any points and numbers. -/
import Derived.Test.YtgjeiddccfmodaaSgF
import Derived.Test.YtgjeiddccfmodaaSgL
import Derived.Test.YtgjeiddccfmodaaPAllx36
namespace Go.Proofs.Ytgjeiddccfmodaa.Pure
open Go.RowKit Go.Proofs.Ytgjeiddccfmodaa.PAll Go.Proofs.YtgjeiddccfmodaaW.PrintWords Go.Proofs.YtgjeiddccfmodaaW.PrintLast Go.Proofs.YtgjeiddccfmodaaW.PrintMore Go.Proofs.Ytgjeiddccfmodaa.Bas Go.Proofs.Ytgjeiddccfmodaa.Nm Go.Proofs.Ytgjeiddccfmodaa.Sg
set_option linter.unusedVariables false
set_option linter.unusedSimpArgs false

theorem cmp_back (a b c d : Int) : cmp a b c d = -cmp c d a b := by
  have s1 := sg_bd a b
  have s2 := sg_bd c d
  unfold cmp
  repeat' split
  all_goals omega
theorem mag_nn {a : Int} (h : 0 ≤ a) : mag a = a := if_neg (by omega)
theorem sg_nn {a b : Int} (ha : 0 ≤ a) (hb : 0 ≤ b) : sg a b = 0 ∧ a * b = 0 ∨ sg a b = 1 ∧ 0 < a * b := by
  unfold sg
  by_cases z : a = 0 ∨ b = 0
  · left
    rw [if_pos z]
    exact ⟨rfl, by rcases z with z | z <;> simp [z]⟩
  · right
    rw [if_neg z]
    have e : (decide (a < 0) != decide (b < 0)) = false := by
      rw [decide_eq_false (by omega), decide_eq_false (by omega)]
      rfl
    rw [e]
    exact ⟨rfl, Int.mul_pos (by omega) (by omega)⟩
theorem cmp_le {a b c d : Int} (ha : 0 ≤ a) (hb : 0 ≤ b) (hc : 0 ≤ c) (hd : 0 ≤ d) (h : a * b ≤ c * d) : cmp a b c d ≤ 0 := by
  have s1 := sg_nn ha hb
  have s2 := sg_nn hc hd
  unfold cmp mm
  rw [mag_nn ha, mag_nn hb, mag_nn hc, mag_nn hd]
  generalize sg a b = S at *
  generalize sg c d = T at *
  generalize a * b = X at *
  generalize c * d = Y at *
  repeat' split
  all_goals omega
theorem near_back (n d m e : Int) : near n d m e = wrap64 (-near m e n d) := by
  have h : near n d m e = -near m e n d := by
    unfold near
    by_cases c : n < 0 ∨ m < 0 ∨ d ≤ 0 ∨ e ≤ 0
    · rw [if_pos c, if_pos (by omega)]
      rfl
    · rw [if_neg c, if_neg (by omega)]
      exact cmp_back _ _ _ _
  have b : -1 ≤ near m e n d ∧ near m e n d ≤ 1 := by
    have s1 := sg_bd m d
    have s2 := sg_bd n e
    unfold near cmp
    repeat' split
    all_goals omega
  rw [h, wrap_in ⟨by omega, by omega⟩]
theorem far_near (p0 p1 a0 a1 b0 b1 : Int) : near (far p0 p1 a0 a1 b0 b1).1 (far p0 p1 a0 a1 b0 b1).2 (far p0 p1 a0 a1 a0 a1).1 (far p0 p1 a0 a1 a0 a1).2 ≤ 0 := by
  by_cases v : V3 p0 p1 a0 a1 b0 b1
  · have v' : V3 p0 p1 a0 a1 a0 a1 := ⟨v.1, v.2.1, v.2.1⟩
    have e2 : far p0 p1 a0 a1 a0 a1 = (d2 p0 p1 a0 a1, 1) := by
      unfold far
      rw [if_pos v', if_pos (.inl ⟨rfl, rfl⟩), Int.min_self]
    rw [e2]
    have n1 := (d2_wrap v.1 v.2.1).2.1
    have n2 := (d2_wrap v.1 v.2.2).2.1
    have n3 := (d2_wrap v.2.1 v.2.2).2.1
    unfold far
    rw [if_pos v]
    split
    · unfold near
      split
      · exact Int.le_refl 0
      · refine cmp_le ?_ (show (0 : Int) ≤ 1 by decide) n1 (show (0 : Int) ≤ 1 by decide) ?_
        · show 0 ≤ min _ _
          omega
        · show min _ _ * 1 ≤ _ * 1
          omega
    · unfold near
      split
      · exact Int.le_refl 0
      · refine cmp_le (sq_nn _) (show (0 : Int) ≤ 1 by decide) n1 n3 ?_
        have l : d2 p0 p1 a0 a1 * d2 a0 a1 b0 b1 = cr a0 a1 b0 b1 p0 p1 * cr a0 a1 b0 b1 p0 p1 + dot p0 p1 a0 a1 b0 b1 * dot p0 p1 a0 a1 b0 b1 := by
          unfold d2 cr dot
          grind
        have := sq_nn (dot p0 p1 a0 a1 b0 b1)
        show cr _ _ _ _ _ _ * cr _ _ _ _ _ _ * 1 ≤ _
        rw [l]
        omega
  · have e1 : far p0 p1 a0 a1 b0 b1 = (0, 0) := if_neg v
    rw [e1]
    unfold near
    rw [if_pos (.inr (.inr (.inl (by decide))))]
    exact Int.le_refl 0
theorem SegOrders : mapmakerlaw09_SegOrders.Pure := by
  intro p0 p1 a0 a1 b0 b1 n d m e hp ha hb hn hd hm he
  refine Ev.rounds (Ev.congr (fun k => by rw [mapmakerlaw09_SegOrders.f]) ?_)
  have f1 := far_isI p0 p1 a0 a1 b0 b1
  have f2 := far_isI p0 p1 a0 a1 a0 a1
  refine Ev.bind (Nearer_ev (isI hn) (isI hd) (isI hm) (isI he)) (Ev.bind (Nearer_ev (isI hm) (isI he) (isI hn) (isI hd)) (Ev_pos (near_back _ _ _ _) ?_))
  exact Ev.bind (Far_ev _ _ _ _ _ _) (Ev.bind (Far_ev _ _ _ _ _ _) (Ev.bind (Nearer_ev f1.1 f1.2 f2.1 f2.2) (Ev_pos (far_near _ _ _ _ _ _) fin_ev)))

end Go.Proofs.Ytgjeiddccfmodaa.Pure
