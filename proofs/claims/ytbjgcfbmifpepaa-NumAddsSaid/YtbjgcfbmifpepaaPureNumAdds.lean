/- Add returns the exact sum, or false if it is not an int: for all arguments. -/
import Derived.Test.YtbjgcfbmifpepaaNmL
import Derived.Test.YtbjgcfbmifpepaaPAllx22
namespace Go.Proofs.Ytbjgcfbmifpepaa.Pure
open Go.RowKit Go.Proofs.Ytbjgcfbmifpepaa.PAll Go.Proofs.YtbjgcfbmifpepaaW.PrintWords Go.Proofs.YtbjgcfbmifpepaaW.PrintLast Go.Proofs.YtbjgcfbmifpepaaW.PrintMore Go.Proofs.Ytbjgcfbmifpepaa.Bas Go.Proofs.Ytbjgcfbmifpepaa.Nm
set_option linter.unusedVariables false
set_option linter.unusedSimpArgs false

theorem NumAdds : mapmakerlaw01_NumAdds.Pure := by
  intro a b ha hb
  have ha := isI ha
  have hb := isI hb
  unfold IsI at ha hb
  refine Ev.rounds (Ev.congr (fun k => by rw [mapmakerlaw01_NumAdds.f]) ?_)
  have e1 : num_Add.f a b = some (if -9223372036854775808 ≤ a + b ∧ a + b ≤ 9223372036854775807 then (a + b, true) else (0, false)) := by
    unfold num_Add.f
    by_cases c : -9223372036854775808 ≤ a + b ∧ a + b ≤ 9223372036854775807
    · rw [if_pos c, wrap_in c]
      by_cases z : b = 0
      · split <;> simp [z]
      · rw [if_pos]
        rw [beq_iff_eq, decide_eq_decide]
        omega
    · rw [if_neg c, if_neg, if_neg (by omega)]
      rw [beq_iff_eq, decide_eq_decide]
      unfold wrap64
      omega
  have e2 : mapmakerref01_Add.f a b = some (if -9223372036854775808 ≤ a + b ∧ a + b ≤ 9223372036854775807 then (a + b, true) else (0, false)) := by
    unfold mapmakerref01_Add.f
    by_cases c : -9223372036854775808 ≤ a + b ∧ a + b ≤ 9223372036854775807
    · rw [if_pos c, wrap_in c]
      by_cases p : b > 0
      · rw [if_pos p, wrap_in (x := 9223372036854775807 - b) ⟨by omega, by omega⟩, if_neg (by omega), if_neg (by omega)]
      · rw [if_neg p]
        by_cases q : b < 0
        · rw [if_pos q, wrap_in (x := -9223372036854775808 - b) ⟨by omega, by omega⟩, if_neg (by omega)]
        · rw [if_neg q]
    · rw [if_neg c]
      by_cases p : b > 0
      · rw [if_pos p, wrap_in (x := 9223372036854775807 - b) ⟨by omega, by omega⟩, if_pos (by omega)]
      · rw [if_neg p, if_pos (by omega), wrap_in (x := -9223372036854775808 - b) ⟨by omega, by omega⟩, if_pos (by omega)]
  exact Ev.bind (Ev_const e1) (Ev.bind (Ev_const e2) (Ev_pos rfl (Ev_pos (by simp) fin_ev)))

end Go.Proofs.Ytbjgcfbmifpepaa.Pure
