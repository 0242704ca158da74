/- Every operation on a new table returns what is specified, in any sequence of at most 60 operations. -/
import Derived.Test.YtpjgognanfgpiaaNd
import Derived.Test.YtpjgognanfgpiaaNPl
namespace Go.Proofs.Ytpjgognanfgpiaa.Pure
open Go.RowKit Go.Proofs.Ytpjgognanfgpiaa.PAll Go.Proofs.YtpjgognanfgpiaaW.PrintWords Go.Proofs.YtpjgognanfgpiaaW.PrintLast Go.Proofs.YtpjgognanfgpiaaW.PrintMore Go.Proofs.Ytpjgognanfgpiaa.Bas Go.Proofs.Ytpjgognanfgpiaa.Nd
set_option linter.unusedVariables false

theorem plays_l0 {l : List S28} (hl : (l.length : Int) ≤ 60) (n : Nat) : ∀ (i : Int) (m : List ByteArray), 0 ≤ i → i ≤ (l.length : Int) → (l.length : Int) - i = n → (m.length : Int) ≤ i → Ev (fun k => mapmakerlaw03_NamesPlays.l0 k l m m i) true := by
  induction n with
  | zero =>
    intro i m h0 h1 hn hm
    refine Ev_round (fun k => by rw [mapmakerlaw03_NamesPlays.l0]) ?_
    exact Ev_neg (by omega) fin_ev
  | succ n ih =>
    intro i m h0 h1 hn hm
    have next : ∀ m' : List ByteArray, (m'.length : Int) ≤ i + 1 → Ev (fun k => mapmakerlaw03_NamesPlays.j2 k l m' m' i) true := by
      intro m' hm'
      refine Ev_round (fun k => by rw [mapmakerlaw03_NamesPlays.j2]) ?_
      refine Ev.bind (Ev_const (show names_Table_Len.f m' = some (m'.length : Int) from rfl)) (Ev_pos rfl ?_)
      refine Ev.bind (Ev_const (show names_Table_All.f m' = some m' from by unfold names_Table_All.f; rw [if_pos (by omega)])) ?_
      refine Ev.bind (same_ev (by omega)) (Ev_pos rfl ?_)
      rw [wrap_in (x := i + 1) ⟨by omega, by omega⟩]
      exact ih (i + 1) m' (by omega) (by omega) (by omega) hm'
    refine Ev_round (fun k => by rw [mapmakerlaw03_NamesPlays.l0]) ?_
    refine Ev_pos (by omega) (Ev_pos h0 ?_)
    by_cases c : ((rd_T28 l i).f1.size : Int) > 300
    · exact Ev_pos c fin_ev
    · refine Ev_neg c ?_
      by_cases c0 : (rd_T28 l i).f0 = 0
      · refine Ev_pos c0 ?_
        refine Ev.bind (add_ev (by omega)) ?_
        refine Ev.bind (Ev_const (tadd (by omega) (by omega))) ?_
        refine Ev_pos rfl ?_
        have := ares_length m (rd_T28 l i).f1
        exact next (ares m (rd_T28 l i).f1) (by omega)
      · refine Ev_neg c0 ?_
        by_cases c1 : (rd_T28 l i).f0 = 1
        · refine Ev_pos c1 ?_
          refine Ev.bind (Ev_const (tfindf (by omega))) ?_
          refine Ev.bind (find_ev (by omega)) ?_
          refine Ev_pos rfl (Ev_neg (by simp) ?_)
          exact next _ (by omega)
        · refine Ev_neg c1 ?_
          refine Ev.bind (Ev_const (show names_Table_Get.f m (rd_T28 l i).f2 = some _ from rfl)) ?_
          refine Ev.bind (Ev_const (show mapmakerref03_Get.f m (rd_T28 l i).f2 = some _ from (get_eq _ _).trans rfl)) ?_
          refine Ev_pos rfl (Ev_neg (by simp) ?_)
          exact next _ (by omega)
theorem NamesPlays : mapmakerlaw03_NamesPlays.Pure := by
  intro l _
  refine Ev.rounds (Ev.congr (fun k => by rw [mapmakerlaw03_NamesPlays.f]) ?_)
  refine Ev.bind (Ev_const (show names_New.f = some [] from rfl)) ?_
  by_cases c : (l.length : Int) > 60
  · refine Ev_pos c ?_
    refine Ev_round (fun k => by rw [mapmakerlaw03_NamesPlays.j0]) ?_
    exact Ev_pos rfl fin_ev
  · refine Ev_neg c ?_
    refine Ev_round (fun k => by rw [mapmakerlaw03_NamesPlays.j0]) ?_
    refine Ev_neg (by decide) ?_
    exact plays_l0 (by omega) l.length 0 [] (by omega) (by omega) (by omega) (by rw [List.length_nil]; omega)
end Go.Proofs.Ytpjgognanfgpiaa.Pure
