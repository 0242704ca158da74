/- To is From of the reversed graph, distances satisfy the triangle inequality, closing an arc shortens no distance. -/
import Derived.Test.YtofhgmdehglhgaaDn
import Derived.Test.YtofhgmdehglhgaaPAllx25
namespace Go.Proofs.Ytofhgmdehglhgaa.Pure
open Go.RowKit Go.Proofs.Ytofhgmdehglhgaa.PAll Go.Proofs.YtofhgmdehglhgaaW.PrintWords Go.Proofs.YtofhgmdehglhgaaW.PrintLast Go.Proofs.YtofhgmdehglhgaaW.PrintMore Go.Proofs.Ytofhgmdehglhgaa.Bas
set_option linter.unusedVariables false

section
variable {n : Nat} {l : List S40} {x : List Int} {s : Int} {d d' : List Int}
theorem back_l1 (hn : n ≤ 1048576) (h1 : d.length = n) (h2 : d'.length = n) (h3 : ∀ v : Int, 0 ≤ v → v < n → rd d v ≤ rd d' v) : ∀ (j i : Nat), i + j = n → Ev (fun k => mapmakerlaw38_DijkstraBack.l1 k d d' (i : Int) n l) true
  | 0, i, h => Ev_round (fun k => by rw [mapmakerlaw38_DijkstraBack.l1]) (Ev_neg (by omega) fin_ev)
  | j + 1, i, h => by
    refine Ev_round (fun k => by rw [mapmakerlaw38_DijkstraBack.l1]) (Ev_pos (by omega) (Ev_pos (by omega) (Ev_pos (by rw [h2]; omega) (Ev_pos (by rw [h1]; omega) (Ev_neg (by have := h3 i (by omega) (by omega); omega) ?_)))))
    rw [wr1 (by omega)]
    exact back_l1 hn h1 h2 h3 j (i + 1) (by omega)
theorem closed_ok {n : Int} (hc : dchk n l x = 0) (i : Nat) : dchk n l (x.set i (-1)) = 0 := by
  have hz := dchk_zero hc
  unfold dchk at hc ⊢
  rw [if_pos hz.1, if_pos hz.2] at hc
  rw [if_pos hz.1, if_pos (by rw [List.length_set]; exact hz.2), if_pos]
  rw [List.all_eq_true]
  intro y hy
  split at hc
  · rename_i ha
    rw [List.all_eq_true] at ha
    rcases List.mem_or_eq_of_mem_set hy with h | h
    · exact ha y h
    · rw [h]
      decide
  · cases hc
theorem closed_rd (i : Nat) (hi : i < x.length) (a : Int) (h : 0 ≤ rd (x.set i (-1)) a) : rd x a = rd (x.set i (-1)) a := by
  rw [rd_set x i a (-1) hi] at h ⊢
  split
  · rename_i c
    rw [if_pos c] at h
    omega
  · rfl
/-- What is left behind the loop over the vertices. -/
theorem back_tail (hc : dchk n l x = 0) (v : Int) (at_ : Int) (hat : 0 ≤ at_ ∧ at_ ≤ 255) (hs : 0 ≤ s ∧ s < n) (ha : Sp n (l.map sw40) x s d) (dv : List Int) (e u : Int) :
    Ev (fun k => mapmakerlaw38_DijkstraBack.j3 k x s v at_ d dv e u false n l) true := by
  refine Ev_round (fun k => by rw [mapmakerlaw38_DijkstraBack.j3]) (Ev_neg Bool.false_ne_true ?_)
  have hG := gr_of hc
  by_cases c : (x.length : Int) = 0
  · exact Ev_pos c fin_ev
  · refine Ev_neg c (Ev_pos (by have := hG.few; have := hG.len; simp only [List.length_nil]; omega) ?_)
    refine Ev.congr (fun k => by rw [Option.bind_some, List.nil_append]) ?_
    have hw : wrap64 at_ = at_ := by unfold wrap64; omega
    rw [hw]
    obtain ⟨q, hq⟩ : ∃ q, q = Int.tmod at_ (x.length : Int) := ⟨_, rfl⟩
    have hq2 : q = at_ % (x.length : Int) := hq.trans (Int.tmod_eq_emod_of_nonneg hat.1)
    have q0 : 0 ≤ q := by rw [hq2]; exact Int.emod_nonneg _ c
    have q1 : q < (x.length : Int) := by rw [hq2]; exact Int.emod_lt_of_pos _ (by omega)
    rw [← hq]
    clear hq hq2 hw
    refine Ev_pos q0 (Ev_pos q1 ?_)
    rcases to_cases n l (x.set q.toNat (-1)) s with ⟨m, em, hc2, hG2, hs2, r, hr, p1, _⟩ | ⟨e2, he2, p1⟩
    · obtain rfl : n = m := by omega
      have p1' : Ev (fun k => dijkstra_To.f k n l (x.set q.toNat (-1)) s) (r, 0) := p1
      refine Ev.bind p1' (Ev_pos rfl ?_)
      show Ev (fun k => mapmakerlaw38_DijkstraBack.j4 k d r ((r.length : Int) != n) n l) true
      rw [show ((r.length : Int) != (n : Int)) = false from bne_eq_false_iff_eq.mpr (by rw [hr.len])]
      refine Ev_round (fun k => by rw [mapmakerlaw38_DijkstraBack.j4]) (Ev_neg Bool.false_ne_true ?_)
      refine back_l1 hG.nfew ha.len hr.len (fun y y0 y1 => ?_) n 0 (by omega)
      by_cases cy : rd r y < 1152921504606846976
      · have hwk := hr.snd y y0 y1 cy
        exact (ha.le (gr_rev hG) hs (hwk.mono (fun a _ _ ax => closed_rd q.toNat (by omega) a ax))).2.2.2
      · have := (ha.rng y y0 y1).2
        omega
    · -- no error can come up
      have hco := closed_ok hc q.toNat
      rcases from_cases n (l.map sw40) (x.set q.toNat (-1)) s with ⟨m, em, _, _, _, r, _, p2⟩ | ⟨e3, he3, p2⟩
      · have := Ev_det (Ev.congr (fun k => to_zero hco s k) p2) p1
        simp only [Prod.mk.injEq] at this
        exact absurd this.2.symm he2
      · exfalso
        obtain ⟨r, _, p4⟩ := prog_from (gr_of (dchk_rev hco)) hs (dchk_rev hco)
        have := Ev_det p2 p4
        simp only [Prod.mk.injEq] at this
        exact he3 this.2
/-- The loop over the vertices. -/
theorem back_l0 (hc : dchk n l x = 0) (v : Int) (at_ : Int) (hat : 0 ≤ at_ ∧ at_ ≤ 255) (hs : 0 ≤ s ∧ s < n) (ha : Sp n (l.map sw40) x s d) (hv : 0 ≤ v ∧ v < n) (hd' : Sp n (l.map sw40) x v d') :
    ∀ (j i : Nat), i + j = n → Ev (fun k => mapmakerlaw38_DijkstraBack.l0 k x s v at_ d d' 0 (i : Int) n l) true
  | 0, i, h => by
    refine Ev_round (fun k => by rw [mapmakerlaw38_DijkstraBack.l0]) (Ev_pos rfl ?_)
    rw [show decide ((i : Int) < (n : Int)) = false from decide_eq_false (by omega)]
    exact back_tail hc v at_ hat hs ha d' 0 i
  | j + 1, i, h => by
    have hG := gr_of hc
    have ih := back_l0 hc v at_ hat hs ha hv hd' j (i + 1) (by omega)
    have hnf := hG.nfew
    refine Ev_round (fun k => by rw [mapmakerlaw38_DijkstraBack.l0]) (Ev_pos rfl ?_)
    rw [show decide ((i : Int) < (n : Int)) = true from decide_eq_true (by omega)]
    refine Ev_round (fun k => by rw [mapmakerlaw38_DijkstraBack.j3]) (Ev_pos rfl (Ev_pos (by omega) (Ev_pos (by rw [hd'.len]; omega) ?_)))
    rw [wr1 (by omega)]
    by_cases c1 : rd d' (i : Int) = 1152921504606846976
    · exact Ev_pos c1 ih
    · refine Ev_neg c1 (Ev_pos hv.1 (Ev_pos (by rw [ha.len]; exact hv.2) ?_))
      by_cases c2 : rd d v = 1152921504606846976
      · exact Ev_pos c2 ih
      · have r1 := hd'.rng i (by omega) (by omega)
        have r2 := ha.rng v hv.1 hv.2
        have hw : wrap64 (rd d' (i : Int) + rd d v) = rd d' (i : Int) + rd d v := by unfold wrap64; omega
        refine Ev_neg c2 (Ev_pos (by rw [ha.len]; omega) (Ev_neg ?_ ih))
        rw [hw]
        have w1 := hd'.snd i (by omega) (by omega) (by omega)
        have w2 := ha.snd v hv.1 hv.2 (by omega)
        have := (ha.le (gr_rev hG) hs (w2.trans w1)).2.2.2
        omega
end
theorem DijkstraBack : mapmakerlaw38_DijkstraBack.Pure := by
  intro n l x s v at_ _ _ _ _ hat_
  have hat : 0 ≤ at_ ∧ at_ ≤ 255 := bounds_u8 hat_
  obtain ⟨b, hb, _⟩ := few_some n l x
  refine Ev.rounds (Ev.congr (fun k => by rw [mapmakerlaw38_DijkstraBack.f, hb, Option.bind_some]) ?_)
  by_cases c : b = true
  · refine Ev_pos c ?_
    rcases to_cases n l x s with ⟨m, rfl, hc, hG2, hs, r, hd, p1, p2⟩ | ⟨e, he, p1⟩
    · have hG := gr_of hc
      have p1' : Ev (fun k => dijkstra_To.f k m l x s) (r, 0) := p1
      have p2' : Ev (fun k => dijkstra_From.f k m (l.map sw40) x s) (r, 0) := p2
      refine Ev.bind p1' (Ev_pos rfl (Ev.bind (rev37_ev (dchk_zero hc).1) (Ev.bind p2' (Ev_pos rfl (Ev.bind (ints_ev r (by rw [hd.len]; have := hG.nfew; omega)) (Ev_pos rfl ?_))))))
      show Ev (fun k => mapmakerlaw38_DijkstraBack.j0 k x s v at_ r ((r.length : Int) != m) m l) true
      rw [show ((r.length : Int) != (m : Int)) = false from bne_eq_false_iff_eq.mpr (by rw [hd.len])]
      refine Ev_round (fun k => by rw [mapmakerlaw38_DijkstraBack.j0]) (Ev_neg Bool.false_ne_true ?_)
      rcases to_cases m l x v with ⟨m2, em, _, _, hv, r2, hd2, q1, _⟩ | ⟨e, he, q1⟩
      · obtain rfl : m = m2 := by omega
        have q1' : Ev (fun k => dijkstra_To.f k m l x v) (r2, 0) := q1
        refine Ev.bind q1' (Ev_pos rfl (Ev_pos (by show (r2.length : Int) = m; rw [hd2.len]) (Ev_neg (by omega) ?_)))
        show Ev (fun k => mapmakerlaw38_DijkstraBack.j1 k x s v at_ r r2 0 (decide (v ≥ (m : Int))) m l) true
        rw [show decide (v ≥ (m : Int)) = false from decide_eq_false (by omega)]
        refine Ev_round (fun k => by rw [mapmakerlaw38_DijkstraBack.j1]) (Ev_neg Bool.false_ne_true ?_)
        exact back_l0 hc v at_ hat hs hd hv hd2 m 0 (by omega)
      · have q1' : Ev (fun k => dijkstra_To.f k m l x v) ([], e) := q1
        refine Ev.bind q1' (Ev_neg he ?_)
        show Ev (fun k => mapmakerlaw38_DijkstraBack.j1 k x s v at_ r [] e false m l) true
        refine Ev_round (fun k => by rw [mapmakerlaw38_DijkstraBack.j1]) (Ev_neg Bool.false_ne_true ?_)
        refine Ev_round (fun k => by rw [mapmakerlaw38_DijkstraBack.l0]) (Ev_neg he ?_)
        exact back_tail hc v at_ hat hs hd [] e 0
    · have p1' : Ev (fun k => dijkstra_To.f k n l x s) ([], e) := p1
      exact Ev.bind p1' (Ev_neg he (Ev_pos rfl fin_ev))
  · exact Ev_neg c fin_ev
end Go.Proofs.Ytofhgmdehglhgaa.Pure
