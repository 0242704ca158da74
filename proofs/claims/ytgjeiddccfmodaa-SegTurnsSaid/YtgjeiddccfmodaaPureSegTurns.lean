/- Of, Less, Turn, On and Within return what is specified: for any points. -/
import Derived.Test.YtgjeiddccfmodaaSg
import Derived.Test.YtgjeiddccfmodaaSgL
import Derived.Test.YtgjeiddccfmodaaPAllx43
import Derived.Test.YtgjeiddccfmodaaPAllx37
import Derived.Test.YtgjeiddccfmodaaPAllx38
import Derived.Test.YtgjeiddccfmodaaPAllx39
import Derived.Test.YtgjeiddccfmodaaPAllx40
import Derived.Test.YtgjeiddccfmodaaPAllx41
import Derived.Test.YtgjeiddccfmodaaPAllx42
namespace Go.Proofs.Ytgjeiddccfmodaa.Pure
open Go.RowKit Go.Proofs.Ytgjeiddccfmodaa.PAll Go.Proofs.YtgjeiddccfmodaaW.PrintWords Go.Proofs.YtgjeiddccfmodaaW.PrintLast Go.Proofs.YtgjeiddccfmodaaW.PrintMore Go.Proofs.Ytgjeiddccfmodaa.Bas Go.Proofs.Ytgjeiddccfmodaa.Sg
set_option linter.unusedVariables false
set_option linter.unusedSimpArgs false

theorem rLess_eq (au av bu bv : Int) : mapmakerref08_Less.f au av bu bv = some (decide (lt2 au av bu bv)) := by
  unfold mapmakerref08_Less.f lt2
  repeat' split
  all_goals (refine sd ?_; simp only [decide_eq_true_eq, Bool.false_eq_true, true_iff, false_iff, or_true, true_or]; omega)
theorem rOf_eq (au av bu bv : Int) : mapmakerref09_Of.f au av bu bv = some (of au av bu bv) := by
  unfold mapmakerref09_Of.f of
  rw [rLess_eq]
  by_cases h : lt2 bu bv au av <;> simp [h]
theorem sLess_eq (au av bu bv cu cv du dv : Int) : ∃ b, seg_Less.f au av bu bv cu cv du dv = some b ∧ mapmakerref09_Less.f au av bu bv cu cv du dv = some b := by
  unfold seg_Less.f mapmakerref09_Less.f
  rw [rLess_eq, rLess_eq, Less_eq, Less_eq]
  split
  · exact ⟨_, rfl, rfl⟩
  · exact ⟨_, rfl, rfl⟩
theorem Within_ev (pu pv au av bu bv : Int) : ∃ b, Ev (fun k => seg_Within.f k pu pv au av bu bv) b ∧ mapmakerref09_Within.f pu pv au av bu bv = some b := by
  unfold mapmakerref09_Within.f
  rw [rOn_eq, Option.bind_some]
  have h : ∀ (X : Option Bool) b, X = some b → Ev (fun k => (seg_On.f k pu pv au av bu bv).bind fun t => (if t = true then (if (!(pu == au) || (!(pv == av))) = true then (some (!(pu == bu) || (!(pv == bv)))) else (some false)) else (some false))) b → ∃ b, Ev (fun k => seg_Within.f k pu pv au av bu bv) b ∧ X = some b :=
    fun X b e k => ⟨b, Ev.congr (fun k => by rw [seg_Within.f]) k, e⟩
  by_cases c : On pu pv au av bu bv
  · by_cases d : (!(pu == au) || (!(pv == av))) = true
    · exact h _ _ (by rw [decide_eq_true c, if_pos rfl, if_pos d]) (Ev.bind (On_ev _ _ _ _ _ _) (Ev_pos (by simpa using c) (Ev_pos d (Ev.now _))))
    · exact h _ _ (by rw [decide_eq_true c, if_pos rfl, if_neg d]) (Ev.bind (On_ev _ _ _ _ _ _) (Ev_pos (by simpa using c) (Ev_neg d (Ev.now _))))
  · exact h _ _ (by rw [decide_eq_false c, if_neg (by decide)]) (Ev.bind (On_ev _ _ _ _ _ _) (Ev_neg (by simpa using c) (Ev.now _)))
theorem SegTurns : mapmakerlaw09_SegTurns.Pure := by
  intro au av bu bv cu cv du dv ha hb hc hd
  refine Ev.rounds (Ev.congr (fun k => by rw [mapmakerlaw09_SegTurns.f]) ?_)
  obtain ⟨b1, e1, e2⟩ := sLess_eq (of au av bu bv).1 (of au av bu bv).2.1 (of au av bu bv).2.2.1 (of au av bu bv).2.2.2 (of cu cv du dv).1 (of cu cv du dv).2.1 (of cu cv du dv).2.2.1 (of cu cv du dv).2.2.2
  obtain ⟨b2, e3, e4⟩ := sLess_eq au av bu bv cu cv du dv
  obtain ⟨b3, e5, e6⟩ := Within_ev cu cv au av bu bv
  refine Ev.bind (Ev_const (Of_eq _ _ _ _)) (Ev.bind (Ev_const (Of_eq _ _ _ _)) (Ev.bind (Ev_const (rOf_eq _ _ _ _)) (Ev_neg (by simp) (Ev.bind (Ev_const (rOf_eq _ _ _ _)) (Ev_neg (by simp) ?_)))))
  refine Ev.bind (Ev_const e1) (Ev.bind (Ev_const e2) (Ev_neg (by simp) (Ev.bind (Ev_const e3) (Ev.bind (Ev_const e4) ?_))))
  refine Ev_round (fun k => by rw [mapmakerlaw09_SegTurns.j0]) (Ev_neg (by simp) ?_)
  refine Ev.bind (Turn_ev _ _ _ _ _ _) (Ev.bind (Ev_const (rTurn_eq _ _ _ _ _ _)) (Ev_pos rfl ?_))
  refine Ev.bind (On_ev _ _ _ _ _ _) (Ev.bind (Ev_const (rOn_eq _ _ _ _ _ _)) (Ev_pos (by simp) ?_))
  exact Ev.bind e5 (Ev.bind (Ev_const e6) (Ev_pos (by simp) fin_ev))

end Go.Proofs.Ytgjeiddccfmodaa.Pure
