/- The reference's Changed: the same places. -/
import Derived.Test.YtpjeomjingocbaaTrX
import Derived.Test.YtpjeomjingocbaaTrV
import Derived.Test.YtpjeomjingocbaaPAllx28
namespace Go.Proofs.Ytpjeomjingocbaa.Tr
open Go.RowKit Go.Proofs.Ytpjeomjingocbaa.PAll Go.Proofs.YtpjeomjingocbaaW.PrintWords Go.Proofs.YtpjeomjingocbaaW.PrintLast Go.Proofs.YtpjeomjingocbaaW.PrintMore Go.Proofs.Ytpjeomjingocbaa.Bas
set_option linter.unusedVariables false

theorem rchg_l0 (a b : List Int) (hab : a.length = b.length) (ha : (a.length : Int) ≤ 40) (m : Nat) : ∀ (i : Int) (p v : List Int), 0 ≤ i → (a.length : Int) - i = m → (p.length : Int) ≤ i → (v.length : Int) ≤ i →
    Ev (fun k => mapmakerref48_Changed.l0 k a b i p v 0) (p ++ (dif i (a.drop i.toNat) (b.drop i.toNat)).1, v ++ (dif i (a.drop i.toNat) (b.drop i.toNat)).2, 0) := by
  induction m with
  | zero =>
    intro i p v h0 hn hp hv
    refine Ev_round (fun k => by rw [mapmakerref48_Changed.l0]) (Ev_neg (by omega) ?_)
    rw [drop_end (l := a) (by omega), dif, List.append_nil, List.append_nil]
    · exact Ev.now _
    · simp
  | succ m ih =>
    intro i p v h0 hn hp hv
    refine Ev_round (fun k => by rw [mapmakerref48_Changed.l0, wrap_in (x := i + 1) ⟨by omega, by omega⟩]) ?_
    refine Ev_pos (by omega) (Ev_pos h0 (Ev_pos (by omega) ?_))
    rw [drop_rd (l := a) h0 (by omega), drop_rd (l := b) h0 (by omega), dif]
    by_cases c : rd a i = rd b i
    · rw [if_pos c]
      exact Ev_pos c (ih (i + 1) p v (by omega) (by omega) (by omega) (by omega))
    · rw [if_neg c]
      refine Ev_neg c (Ev_pos (by omega) (Ev_pos (by omega) ?_))
      refine Ev_eq ?_ (ih (i + 1) (p ++ [i]) (v ++ [rd b i]) (by omega) (by omega) (by rw [List.length_append]; simp; omega) (by rw [List.length_append]; simp; omega))
      simp only [List.append_assoc]
      rfl
theorem rchanged_ev (N : List Int) (P : List S64) (R : List S48) (l m : List S43) (at' : Int) (hN : (N.length : Int) ≤ 9223372036854775807) (hR : Fits R) (h40 : (R.length : Int) ≤ 40) (hl : (l.length : Int) ≤ 9223372036854775807) (hm : (m.length : Int) ≤ 9223372036854775807) :
    Ev (fun k => mapmakerref48_Changed.f k N P R l m at') (Chg N P R l m at') := by
  refine Ev.congr (fun k => by rw [mapmakerref48_Changed.f]) (Ev.bind (rweights_ev N P R l at' hN hR h40 hl) ?_)
  unfold Chg
  by_cases c0 : (Wt N P R l at').2 = 0
  · rw [if_pos c0]
    refine Ev_pos c0 (Ev.bind (rweights_ev N P R m at' hN hR h40 hm) ?_)
    by_cases c1 : (Wt N P R m at').2 = 0
    · rw [if_pos c1]
      refine Ev_pos c1 ?_
      rw [(Wt_full c0).1, (Wt_full c1).1]
      have := rchg_l0 (wts at' l R) (wts at' m R) (by rw [wts_length, wts_length]) (by rw [wts_length]; exact h40) (wts at' l R).length 0 [] [] (by omega) (by omega) (by simp) (by simp)
      simpa using this
    · rw [if_neg c1]
      exact Ev_neg c1 (Ev.now _)
  · rw [if_neg c0]
    exact Ev_neg c0 (Ev.now _)
end Go.Proofs.Ytpjeomjingocbaa.Tr
