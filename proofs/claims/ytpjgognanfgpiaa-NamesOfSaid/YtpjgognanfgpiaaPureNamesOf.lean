/- Of returns the table of the strings, or the specified error: at most 60 strings of at most 300 bytes. -/
import Derived.Test.YtpjgognanfgpiaaNf
namespace Go.Proofs.Ytpjgognanfgpiaa.Pure
open Go.RowKit Go.Proofs.Ytpjgognanfgpiaa.PAll Go.Proofs.YtpjgognanfgpiaaW.PrintWords Go.Proofs.YtpjgognanfgpiaaW.PrintLast Go.Proofs.YtpjgognanfgpiaaW.PrintMore Go.Proofs.Ytpjgognanfgpiaa.Bas Go.Proofs.Ytpjgognanfgpiaa.Nd
set_option linter.unusedVariables false

theorem NamesOf : mapmakerlaw03_NamesOf.Pure := by
  intro l s i hl _ _
  refine Ev.rounds (Ev.congr (fun k => by rw [mapmakerlaw03_NamesOf.f]) ?_)
  obtain ⟨b, hb, hr⟩ := few_ev hl.1
  refine Ev.bind hb ?_
  have out : Ev (fun k => mapmakerlaw03_NamesOf.j0 k l s i true) true := Ev_round (fun k => by rw [mapmakerlaw03_NamesOf.j0]) (Ev_pos rfl fin_ev)
  cases b with
  | false => exact Ev_neg (by decide) out
  | true =>
    refine Ev_pos rfl ?_
    obtain ⟨h60, hs⟩ := hr rfl
    by_cases c : (s.size : Int) > 300
    · rw [decide_eq_true c]
      exact out
    rw [decide_eq_false c]
    refine Ev_round (fun k => by rw [mapmakerlaw03_NamesOf.j0]) (Ev_neg (by decide) ?_)
    obtain ⟨m, q, e, e1, e2, e3⟩ := of_l0 h60 hs l.length 0 (by omega) (by omega) (by omega)
    refine Ev.bind (Ev.congr (fun k => by rw [names_Of.f, show names_New.f = some [] from rfl, Option.bind_some]; rfl) e1) ?_
    refine Ev.bind (Ev.congr (fun k => by rw [ofRead.f]) e2) ?_
    refine Ev_pos rfl ?_
    by_cases he : e = 0
    · have hm := e3 he
      subst hm
      refine Ev_pos he (Ev_neg (by decide) ?_)
      refine Ev.bind (Ev_const (show names_Table_Len.f m = some (m.length : Int) from rfl)) (Ev_pos rfl ?_)
      refine Ev.bind (Ev_const (show names_Table_All.f m = some m from by unfold names_Table_All.f; rw [if_pos (by omega)])) ?_
      refine Ev.bind (same_ev (by omega)) ?_
      refine Ev_round (fun k => by rw [mapmakerlaw03_NamesOf.j1]) (Ev_neg (by decide) ?_)
      obtain ⟨q2, hq2⟩ := addRead_ev (m := m) (s := s) (by omega)
      refine Ev.bind (Ev_const (tfindf (by omega))) ?_
      refine Ev.bind (find_ev (by omega)) ?_
      refine Ev.bind (Ev_const (show names_Table_Get.f m i = some _ from rfl)) ?_
      refine Ev.bind (Ev_const (show mapmakerref03_Get.f m i = some _ from (get_eq _ _).trans rfl)) ?_
      refine Ev.bind hq2 ?_
      refine Ev_pos rfl (Ev_pos (by simp) (Ev_pos rfl (Ev_pos (by simp) ?_)))
      refine Ev.bind (Ev_const (tadd (m := m) (s := s) (by omega) (by omega))) ?_
      exact Ev_pos rfl fin_ev
    · refine Ev_neg he (Ev_pos (by decide) fin_ev)
end Go.Proofs.Ytpjgognanfgpiaa.Pure
