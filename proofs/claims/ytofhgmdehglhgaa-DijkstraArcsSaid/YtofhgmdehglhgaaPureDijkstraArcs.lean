/- No arc leads to a vertex more cheaply than its distance; every distance is attained over an arc; that of the start is 0. -/
import Derived.Test.YtofhgmdehglhgaaDn
import Derived.Test.YtofhgmdehglhgaaPAllx20
namespace Go.Proofs.Ytofhgmdehglhgaa.Pure
open Go.RowKit Go.Proofs.Ytofhgmdehglhgaa.PAll Go.Proofs.YtofhgmdehglhgaaW.PrintWords Go.Proofs.YtofhgmdehglhgaaW.PrintLast Go.Proofs.YtofhgmdehglhgaaW.PrintMore Go.Proofs.Ytofhgmdehglhgaa.Bas
set_option linter.unusedVariables false

section
variable {n : Nat} {l : List S40} {x : List Int} {s : Int} {d : List Int}
theorem arcs_l1 (hn : n ≤ 1048576) (hs : 0 ≤ s ∧ s < n) (hd : Sp n l x s d) (R : List Bool) (hR : R.length = n) (hr : ∀ v : Int, 0 ≤ v → v < n → v ≠ s → rd d v < 1152921504606846976 → rdOf false R v = true) :
    ∀ (j i : Nat), i + j = n → Ev (fun k => mapmakerlaw38_DijkstraArcs.l1 k s d R (i : Int) n l) true
  | 0, i, h => Ev_round (fun k => by rw [mapmakerlaw38_DijkstraArcs.l1]) (Ev_neg (by omega) fin_ev)
  | j + 1, i, h => by
    refine Ev_round (fun k => by rw [mapmakerlaw38_DijkstraArcs.l1]) (Ev_pos (by omega) ?_)
    rw [wr1 (by omega)]
    have ih := arcs_l1 hn hs hd R hR hr j (i + 1) (by omega)
    by_cases c : (i : Int) = s
    · exact Ev_pos c ih
    · refine Ev_neg c (Ev_pos (by omega) (Ev_pos (by rw [hd.len]; omega) ?_))
      by_cases c2 : rd d (i : Int) = 1152921504606846976
      · exact Ev_pos c2 ih
      · refine Ev_neg c2 (Ev_pos (by rw [hR]; omega) (Ev_pos ?_ ih))
        have := (hd.rng i (by omega) (by omega)).2
        exact hr i (by omega) (by omega) c (by omega)
theorem arcs_l0 (hG : Gr n l x) (hs : 0 ≤ s ∧ s < n) (hd : Sp n l x s d) : ∀ (j i : Nat) (R : List Bool), i + j = l.length → R.length = n → (∀ a : Int, 0 ≤ a → a < i → 0 ≤ rd x a → rd d (rd_T40 l a).f0 < 1152921504606846976 → rd d (rd_T40 l a).f0 + rd x a = rd d (rd_T40 l a).f1 → rdOf false R (rd_T40 l a).f1 = true) →
    Ev (fun k => mapmakerlaw38_DijkstraArcs.l0 k x s d R l (l.length : Int) (i : Int) n l) true
  | 0, i, R, h, hR, hr => by
    refine Ev_round (fun k => by rw [mapmakerlaw38_DijkstraArcs.l0]) (Ev_neg (by omega) ?_)
    refine arcs_l1 hG.nfew hs hd R hR (fun v v0 v1 vs vf => ?_) n 0 (by omega)
    obtain ⟨a, a0, a1, ax, ae, al, aq⟩ := hd.last hG hs v v0 v1 vs vf
    rw [← ae] at aq ⊢
    exact hr a a0 (by omega) ax al aq
  | j + 1, i, R, h, hR, hr => by
    have hi : i < l.length := by omega
    have hfw := hG.few
    have hln := hG.len
    obtain ⟨e1, e2, e3, e4⟩ := hG.ends i (by omega) (by omega)
    have hw := hG.wt i (by omega) (by omega)
    have hwr := Aside0.mk (show wrap64 ((i : Int) + 1) = ((i + 1 : Nat) : Int) from wr1 (by omega))
    refine Ev_round (fun k => by rw [mapmakerlaw38_DijkstraArcs.l0]) (Ev_pos (by omega) (Ev_pos (by omega) (Ev_pos (by omega) (Ev_pos (by omega) ?_))))
    have skip : (0 ≤ rd x i → rd d (rd_T40 l i).f0 < 1152921504606846976 → False) → Ev (fun k => mapmakerlaw38_DijkstraArcs.j2 k x s d R i l (l.length : Int) (i : Int) true n l (rd_T40 l i).f0 (rd_T40 l i).f1) true := fun hh => by
      refine Ev_round (fun k => by rw [mapmakerlaw38_DijkstraArcs.j2]) (Ev_pos rfl ?_)
      rw [hwr.out]
      refine arcs_l0 hG hs hd j (i + 1) R (by omega) hR (fun a a0 a1 ax al aq => ?_)
      by_cases e : a = i
      · subst e
        exact absurd al (fun al => hh ax al)
      · exact hr a a0 (by omega) ax al aq
    by_cases c1 : rd x i < 0
    · exact Ev_pos c1 (skip (fun h _ => by omega))
    · refine Ev_neg c1 (Ev_pos e1 (Ev_pos (by rw [hd.len]; exact e2) ?_))
      by_cases c2 : rd d (rd_T40 l i).f0 = 1152921504606846976
      · rw [show (rd d (rd_T40 l i).f0 == 1152921504606846976) = true from beq_iff_eq.mpr c2]
        exact skip (fun _ h => by omega)
      · rw [show (rd d (rd_T40 l i).f0 == 1152921504606846976) = false from beq_eq_false_iff_ne.mpr c2]
        have q := hd.rng _ e1 e2
        have rl := hd.rel i (by omega) (by omega) (by omega) (by omega)
        have hww := Aside0.mk (show wrap64 (rd d (rd_T40 l i).f0 + rd x i) = rd d (rd_T40 l i).f0 + rd x i from by unfold wrap64; omega)
        have hRl : (rd_T40 l i).f1 < R.length := by rw [hR]; exact e4
        have go : ∀ b : Bool, (rdOf false R (rd_T40 l i).f1 = true → b = true) → (rd d (rd_T40 l i).f0 + rd x i = rd d (rd_T40 l i).f1 → b = true) → Ev (fun k => mapmakerlaw38_DijkstraArcs.l0 k x s d (R.set (rd_T40 l i).f1.toNat b) l (l.length : Int) (wrap64 ((i : Int) + 1)) n l) true := fun b hb1 hb2 => by
          rw [hwr.out]
          refine arcs_l0 hG hs hd j (i + 1) _ (by omega) (by rw [List.length_set]; exact hR) (fun a a0 a1 ax al aq => ?_)
          obtain ⟨f1, f2, f3, f4⟩ := hG.ends a a0 (by omega)
          rw [rdB_set e3 hRl _ f3]
          by_cases ea : a = i
          · subst ea
            rw [if_pos rfl]
            exact hb2 aq
          · have old := hr a a0 (by omega) ax al aq
            split
            · rename_i e
              exact hb1 (by rw [← e]; exact old)
            · exact old
        refine Ev_round (fun k => by rw [mapmakerlaw38_DijkstraArcs.j2]) (Ev_neg Bool.false_ne_true (Ev_pos e1 (Ev_pos (by rw [hd.len]; exact e2) (Ev_pos (by omega) (Ev_pos (by omega) (Ev_pos e3 (Ev_pos (by rw [hd.len]; exact e4) ?_)))))))
        rw [hww.out]
        refine Ev_neg (by omega) (Ev_pos hRl ?_)
        by_cases c3 : rdOf false R (rd_T40 l i).f1 = true
        · exact Ev_pos c3 (go true (fun _ => rfl) (fun _ => rfl))
        · exact Ev_neg c3 (go _ (fun h => absurd h c3) (fun h => beq_iff_eq.mpr h))
end
theorem DijkstraArcs : mapmakerlaw38_DijkstraArcs.Pure := by
  intro n l x s _ _ _
  obtain ⟨b, hb, _⟩ := few_some n l x
  refine Ev.rounds (Ev.congr (fun k => by rw [mapmakerlaw38_DijkstraArcs.f, hb, Option.bind_some]) ?_)
  by_cases c : b = true
  · refine Ev_pos c ?_
    rcases from_cases n l x s with ⟨m, rfl, hc, hG, hs, r, hd, p1⟩ | ⟨e, he, p1⟩
    · have p1' : Ev (fun k => dijkstra_From.f k m l x s) (r, 0) := p1
      refine Ev.bind p1' (Ev_pos rfl (Ev_pos (by show (r.length : Int) = m; rw [hd.len]) (Ev_neg (by omega) (Ev_neg (by omega) (Ev_pos hs.1 (Ev_pos (by show s < (r.length : Int); rw [hd.len]; exact hs.2) ?_))))))
      show Ev (fun k => mapmakerlaw38_DijkstraArcs.j0 k x s r (rd r s != 0) m l) true
      rw [show (rd r s != 0) = false from bne_eq_false_iff_eq.mpr hd.src]
      have := hG.nfew
      refine Ev_round (fun k => by rw [mapmakerlaw38_DijkstraArcs.j0]) (Ev_neg Bool.false_ne_true (Ev_pos (by omega) (Ev_pos (by omega) ?_)))
      rw [Int.toNat_natCast]
      exact arcs_l0 hG hs hd l.length 0 _ (by omega) (by simp) (fun a a0 a1 => by omega)
    · have p1' : Ev (fun k => dijkstra_From.f k n l x s) ([], e) := p1
      exact Ev.bind p1' (Ev_neg he (Ev_pos rfl fin_ev))
  · exact Ev_neg c fin_ev
end Go.Proofs.Ytofhgmdehglhgaa.Pure
