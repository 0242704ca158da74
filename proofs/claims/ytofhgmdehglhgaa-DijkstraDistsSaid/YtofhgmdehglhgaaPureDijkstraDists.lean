/- Check, From and To return the specified error or distances. -/
import Derived.Test.YtofhgmdehglhgaaDn
import Derived.Test.YtofhgmdehglhgaaPAllx24
namespace Go.Proofs.Ytofhgmdehglhgaa.Pure
open Go.RowKit Go.Proofs.Ytofhgmdehglhgaa.PAll Go.Proofs.YtofhgmdehglhgaaW.PrintWords Go.Proofs.YtofhgmdehglhgaaW.PrintLast Go.Proofs.YtofhgmdehglhgaaW.PrintMore Go.Proofs.Ytofhgmdehglhgaa.Bas
set_option linter.unusedVariables false

theorem DijkstraDists : mapmakerlaw38_DijkstraDists.Pure := by
  intro n l x s _ _ _
  obtain ⟨b, hb, _⟩ := few_some n l x
  refine Ev.rounds (Ev.congr (fun k => by rw [mapmakerlaw38_DijkstraDists.f, hb, Option.bind_some]) ?_)
  by_cases c : b = true
  · refine Ev_pos c ?_
    obtain ⟨r, e, p1, p2, p3⟩ := from_both n l x s
    obtain ⟨r', e', q1, q2, q3⟩ := to_both n l x s
    have p1' : Ev (fun k => dijkstra_From.f k n l x s) (r, e) := p1
    have q1' : Ev (fun k => dijkstra_To.f k n l x s) (r', e') := q1
    refine Ev.bind p1' (Ev.bind p2 (Ev.bind q1' (Ev.bind q2 (Ev.congr (fun k => by rw [dijkstra_Check.f, Option.bind_some]) ?_))))
    refine Ev.bind (check38_ev n l x) (Ev_pos rfl (Ev_pos rfl ?_))
    exact Ev.bind (ints_ev r (by omega)) (Ev_pos rfl (Ev_pos rfl (Ev.bind (ints_ev r' (by omega)) (Ev_pos rfl fin_ev))))
  · exact Ev_neg c fin_ev
end Go.Proofs.Ytofhgmdehglhgaa.Pure
