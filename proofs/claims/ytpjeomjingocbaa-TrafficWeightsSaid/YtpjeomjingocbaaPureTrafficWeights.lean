/- Weights returns the weights of any network with any reports at any time (up to 20 nodes, 40 pieces, 40 reports). -/
import Derived.Test.YtpjeomjingocbaaTrV
import Derived.Test.YtpjeomjingocbaaPAllx25
namespace Go.Proofs.Ytpjeomjingocbaa.Pure
open Go.RowKit Go.Proofs.Ytpjeomjingocbaa.PAll Go.Proofs.YtpjeomjingocbaaW.PrintWords Go.Proofs.YtpjeomjingocbaaW.PrintLast Go.Proofs.YtpjeomjingocbaaW.PrintMore Go.Proofs.Ytpjeomjingocbaa.Bas Go.Proofs.Ytpjeomjingocbaa.Tr
set_option linter.unusedVariables false

theorem TrafficWeights : mapmakerlaw48_TrafficWeights.Pure := by
  intro N P R l a ⟨hN, _, hR⟩ hl _
  have fN := len_ok hN.1
  have fR : Fits R := ⟨len_ok hR.1, fun x hx => len_ok (hR.2 x hx).2.2.2.2.2.1.1⟩
  have fl := len_ok hl.1
  refine Ev.rounds (Ev.congr (fun k => by rw [mapmakerlaw48_TrafficWeights.f]) ?_)
  obtain ⟨b, hb, h40⟩ := few_ev N P R
  refine Ev.bind hb ?_
  have out : Ev (fun k => mapmakerlaw48_TrafficWeights.j0 k l a true N P R) true := by
    refine Ev_round (fun k => by rw [mapmakerlaw48_TrafficWeights.j0]) ?_
    exact Ev_pos rfl fin_ev
  by_cases c : b = true
  · refine Ev_pos c ?_
    by_cases d : (l.length : Int) > 40
    · rw [decide_eq_true d]
      exact out
    · rw [decide_eq_false d]
      have h := h40 c
      refine Ev_round (fun k => by rw [mapmakerlaw48_TrafficWeights.j0]) (Ev_neg (by decide) ?_)
      refine Ev.bind (weights_ev N P R l a fN fR h fl) ?_
      refine Ev.bind (rweights_ev N P R l a fN fR h fl) ?_
      refine Ev_pos rfl ?_
      refine Ev.bind (ints_ev _ (by have := Wt_length N P R l a h; omega)) ?_
      exact Ev_pos rfl fin_ev
  · exact Ev_neg c out
end Go.Proofs.Ytpjeomjingocbaa.Pure
