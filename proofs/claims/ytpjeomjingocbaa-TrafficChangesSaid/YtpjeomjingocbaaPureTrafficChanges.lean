/- Changed returns the pieces whose weights differ, with their new weights (up to 20 nodes, 40 pieces, 40 reports in each list). -/
import Derived.Test.YtpjeomjingocbaaTrY
import Derived.Test.YtpjeomjingocbaaPAllx29
namespace Go.Proofs.Ytpjeomjingocbaa.Pure
open Go.RowKit Go.Proofs.Ytpjeomjingocbaa.PAll Go.Proofs.YtpjeomjingocbaaW.PrintWords Go.Proofs.YtpjeomjingocbaaW.PrintLast Go.Proofs.YtpjeomjingocbaaW.PrintMore Go.Proofs.Ytpjeomjingocbaa.Bas Go.Proofs.Ytpjeomjingocbaa.Tr
set_option linter.unusedVariables false

theorem TrafficChanges : mapmakerlaw48_TrafficChanges.Pure := by
  intro N P R l m a ⟨hN, _, hR⟩ ⟨hl, hm, _⟩
  have fN := len_ok hN.1
  have fR : Fits R := ⟨len_ok hR.1, fun x hx => len_ok (hR.2 x hx).2.2.2.2.2.1.1⟩
  have fl := len_ok hl.1
  have fm := len_ok hm.1
  refine Ev.rounds (Ev.congr (fun k => by rw [mapmakerlaw48_TrafficChanges.f]) ?_)
  obtain ⟨b, hb, h40⟩ := few_ev N P R
  refine Ev.bind hb ?_
  have out : Ev (fun k => mapmakerlaw48_TrafficChanges.j0 k true N P R l m a) true := by
    refine Ev_round (fun k => by rw [mapmakerlaw48_TrafficChanges.j0]) ?_
    exact Ev_pos rfl fin_ev
  by_cases c : b = true
  · refine Ev_pos c ?_
    by_cases d : (l.length : Int) > 40
    · exact Ev_pos d out
    · refine Ev_neg d ?_
      by_cases e : (m.length : Int) > 40
      · rw [decide_eq_true e]
        exact out
      · rw [decide_eq_false e]
        have h := h40 c
        have hL := Chg_length N P R l m a h
        refine Ev_round (fun k => by rw [mapmakerlaw48_TrafficChanges.j0]) (Ev_neg (by decide) ?_)
        refine Ev.bind (changed_ev N P R l m a fN fR h fl fm) ?_
        refine Ev.bind (rchanged_ev N P R l m a fN fR h fl fm) ?_
        refine Ev_pos rfl ?_
        refine Ev.bind (ints_ev _ (by omega)) ?_
        refine Ev_pos rfl ?_
        refine Ev.bind (ints_ev _ (by omega)) ?_
        exact Ev_pos rfl fin_ev
  · exact Ev_neg c out
end Go.Proofs.Ytpjeomjingocbaa.Pure
