/- Giving the changed pieces their new weights turns the weights with the first reports into those with the second ones (up to 20 nodes, 40 pieces, 40 reports in each list). -/
import Derived.Test.YtpjeomjingocbaaTrX
import Derived.Test.YtpjeomjingocbaaPAllx30
namespace Go.Proofs.Ytpjeomjingocbaa.Pure
open Go.RowKit Go.Proofs.Ytpjeomjingocbaa.PAll Go.Proofs.YtpjeomjingocbaaW.PrintWords Go.Proofs.YtpjeomjingocbaaW.PrintLast Go.Proofs.YtpjeomjingocbaaW.PrintMore Go.Proofs.Ytpjeomjingocbaa.Bas Go.Proofs.Ytpjeomjingocbaa.Tr
set_option linter.unusedVariables false

theorem drop_cons_at {l : List Int} {i : Int} {x : Int} {r : List Int} (h0 : 0 ≤ i) (h : l.drop i.toNat = x :: r) : i < (l.length : Int) ∧ rd l i = x ∧ l.drop (i + 1).toNat = r := by
  have hi : i < (l.length : Int) := by
    by_cases c : i < (l.length : Int)
    · exact c
    · rw [drop_end (by omega)] at h
      cases h
  rw [drop_rd h0 hi] at h
  injection h with h1 h2
  exact ⟨hi, h1, h2⟩
theorem set_l0 (p v b : List Int) (hp : (p.length : Int) ≤ 40) (hb : (b.length : Int) ≤ 40) : ∀ (xs ys : List Int) (pre : List Int) (m j : Int), 0 ≤ j → (pre.length : Int) = m → b = pre ++ ys → xs.length = ys.length →
    p.drop j.toNat = (dif m xs ys).1 → v.drop j.toNat = (dif m xs ys).2 → Ev (fun k => mapmakerlaw48_TrafficSets.l0 k p v b (pre ++ xs) j) true
  | [], [], pre, m, j, h0, hm, hbb, hxy, h1, h2 => by
    rw [dif] at h1
    · have hj : (p.length : Int) ≤ j := by
        have := congrArg List.length h1
        rw [List.length_drop] at this
        simp at this
        omega
      refine Ev_round (fun k => by rw [mapmakerlaw48_TrafficSets.l0]) (Ev_neg (by omega) ?_)
      rw [← hbb]
      refine Ev.bind (ints_ev b (by omega)) ?_
      exact Ev_pos rfl fin_ev
    · simp
  | [], _ :: _, _, _, _, _, _, _, hxy, _, _ => by simp at hxy
  | _ :: _, [], _, _, _, _, _, _, hxy, _, _ => by simp at hxy
  | x :: xs, y :: ys, pre, m, j, h0, hm, hbb, hxy, h1, h2 => by
    rw [dif] at h1 h2
    by_cases c : x = y
    · rw [if_pos c] at h1 h2
      have := set_l0 p v b hp hb xs ys (pre ++ [y]) (m + 1) j h0 (by rw [List.length_append]; simp; omega) (by rw [hbb]; simp) (by simpa using hxy) h1 h2
      rw [c]
      simpa using this
    · rw [if_neg c] at h1 h2
      obtain ⟨a0, a1, a2⟩ := drop_cons_at h0 h1
      obtain ⟨b0, b1, b2⟩ := drop_cons_at h0 h2
      have l0 : ((pre ++ x :: xs).length : Int) > m := by
        rw [List.length_append, List.length_cons]
        omega
      have hm0 : 0 ≤ m := by omega
      have next := set_l0 p v b hp hb xs ys (pre ++ [y]) (m + 1) (j + 1) (by omega) (by rw [List.length_append]; simp; omega) (by rw [hbb]; simp) (by simpa using hxy) a2 b2
      refine Ev_round (fun k => by rw [mapmakerlaw48_TrafficSets.l0, a1, b1, wrap_in (x := j + 1) ⟨by omega, by omega⟩, rd_mid pre xs x hm0 hm, set_mid pre xs x y hm0 hm]) ?_
      refine Ev_pos a0 (Ev_pos h0 (Ev_neg (by omega) (Ev_neg (by omega) (Ev_pos hm0 (Ev_pos (by omega) (Ev_pos b0 (Ev_neg c ?_)))))))
      simpa using next
theorem TrafficSets : mapmakerlaw48_TrafficSets.Pure := by
  intro N P R l m a ⟨hN, _, hR⟩ ⟨hl, hm, _⟩
  have fN := len_ok hN.1
  have fR : Fits R := ⟨len_ok hR.1, fun x hx => len_ok (hR.2 x hx).2.2.2.2.2.1.1⟩
  have fl := len_ok hl.1
  have fm := len_ok hm.1
  refine Ev.rounds (Ev.congr (fun k => by rw [mapmakerlaw48_TrafficSets.f]) ?_)
  obtain ⟨b, hb, h40⟩ := few_ev N P R
  refine Ev.bind hb ?_
  have out : Ev (fun k => mapmakerlaw48_TrafficSets.j0 k true N P R l m a) true := by
    refine Ev_round (fun k => by rw [mapmakerlaw48_TrafficSets.j0]) ?_
    exact Ev_pos rfl fin_ev
  by_cases c : b = true
  · refine Ev_pos c ?_
    by_cases d : (l.length : Int) > 40
    · exact Ev_pos d out
    · refine Ev_neg d ?_
      by_cases e : (m.length : Int) > 40
      · rw [decide_eq_true e]
        exact out
      · rw [decide_eq_false e]
        have h := h40 c
        refine Ev_round (fun k => by rw [mapmakerlaw48_TrafficSets.j0]) (Ev_neg (by decide) ?_)
        refine Ev.bind (changed_ev N P R l m a fN fR h fl fm) ?_
        by_cases c0 : (Wt N P R l a).2 = 0
        · by_cases c1 : (Wt N P R m a).2 = 0
          · obtain ⟨w0, _⟩ := Wt_full c0
            obtain ⟨w1, _⟩ := Wt_full c1
            have e0 : Chg N P R l m a = ((dif 0 (wts a l R) (wts a m R)).1, (dif 0 (wts a l R) (wts a m R)).2, 0) := by
              unfold Chg
              rw [if_pos c0, if_pos c1, w0, w1]
            have hd := dif_length (wts a l R) (wts a m R) 0
            have hw0 := wts_length a l R
            have hw1 := wts_length a m R
            rw [e0]
            refine Ev_pos rfl ?_
            refine Ev.bind (weights_ev N P R l a fN fR h fl) ?_
            refine Ev.bind (weights_ev N P R m a fN fR h fm) ?_
            refine Ev_pos c0 (Ev_pos c1 (Ev_pos (by simp only []; omega) ?_))
            rw [w0, w1]
            refine Ev_round (fun k => by rw [mapmakerlaw48_TrafficSets.j1]) (Ev_neg (by simp; omega) (Ev_pos (by simp; omega) ?_))
            rw [List.nil_append]
            have := set_l0 (dif 0 (wts a l R) (wts a m R)).1 (dif 0 (wts a l R) (wts a m R)).2 (wts a m R) (by omega) (by omega) (wts a l R) (wts a m R) [] 0 0 (by omega) (by simp) (by simp) (by omega) (by simp) (by simp)
            simpa using this
          · have e0 : Chg N P R l m a = ([], [], (Wt N P R m a).2) := by
              unfold Chg
              rw [if_pos c0, if_neg c1]
            rw [e0]
            exact Ev_neg c1 (Ev_pos rfl (Ev_pos rfl fin_ev))
        · have e0 : Chg N P R l m a = ([], [], (Wt N P R l a).2) := by
            unfold Chg
            rw [if_neg c0]
          rw [e0]
          exact Ev_neg c0 (Ev_pos rfl (Ev_pos rfl fin_ev))
  · exact Ev_neg c out
end Go.Proofs.Ytpjeomjingocbaa.Pure
