/- Path returns the specified error, or a path with the smallest cost and this cost. -/
import Derived.Test.YtofhgmdehglhgaaDo
import Derived.Test.YtofhgmdehglhgaaPAllx18
import Derived.Test.YtofhgmdehglhgaaPAllx9
import Derived.Test.YtofhgmdehglhgaaPAllx16
import Derived.Test.YtofhgmdehglhgaaPAllx17
namespace Go.Proofs.Ytofhgmdehglhgaa.Pure
open Go.RowKit Go.Proofs.Ytofhgmdehglhgaa.PAll Go.Proofs.YtofhgmdehglhgaaW.PrintWords Go.Proofs.YtofhgmdehglhgaaW.PrintLast Go.Proofs.YtofhgmdehglhgaaW.PrintMore Go.Proofs.Ytofhgmdehglhgaa.Bas
set_option linter.unusedVariables false

/-- What both Paths give: the same error, or the same cost, which the program's path has. -/
theorem path_cases (n : Int) (l : List S40) (x : List Int) (s t : Int) :
    (∃ e, e ≠ 0 ∧ Ev (fun k => pathP k n l x s t) ([], 0, e) ∧ Ev (fun k => mapmakerref38_Path.f k n l x s t) ([], 0, e)) ∨
    (∃ q q' c, Ev (fun k => pathP k n l x s t) (q, c, 0) ∧ Ev (fun k => mapmakerref38_Path.f k n l x s t) (q', c, 0) ∧ Ev (fun k => mapmakerref38_Cost.f k n l x s t q) (c, true)) := by
  by_cases hc : dchk n l x = 0
  · by_cases hr : s < 0 ∨ n ≤ s ∨ t < 0 ∨ n ≤ t
    · refine .inl ⟨2, by decide, ⟨0, fun k _ => ?_⟩, ?_⟩
      · show pathP k n l x s t = _
        unfold pathP
        rw [if_pos hc, if_pos hr]
      · unfold mapmakerref38_Path.f
        refine Ev.bind (check38_ev n l x) (Ev_pos hc ?_)
        have yes : Ev (fun k => mapmakerref38_Path.j0 k x s t true n l) ([], 0, 2) := Ev_round (fun k => by rw [mapmakerref38_Path.j0]) (Ev_pos rfl (Ev.now _))
        by_cases c1 : s < 0
        · exact Ev_pos c1 yes
        · refine Ev_neg c1 ?_
          by_cases c2 : s ≥ n
          · exact Ev_pos c2 yes
          · refine Ev_neg c2 ?_
            by_cases c3 : t < 0
            · exact Ev_pos c3 yes
            · refine Ev_neg c3 ?_
              rw [show decide (t ≥ n) = true from decide_eq_true (by omega)]
              exact yes
    · obtain ⟨m, rfl⟩ : ∃ m : Nat, n = m := ⟨n.toNat, by have := (gchk_arc (dchk_zero hc).1).1; omega⟩
      have hG := gr_of hc
      have hs : 0 ≤ s ∧ s < (m : Int) := by omega
      have t0 : 0 ≤ t := by omega
      have t1 : t < (m : Int) := by omega
      obtain ⟨k0, r, hk0, hI, hq⟩ := run_sp hG hs
      have hd := hI.sp hq
      obtain ⟨r', hd', he'⟩ := ref_from hG hs hc
      obtain rfl := hd.uniq hG hs hd'
      -- the program's Path behind its run
      have prog : ∀ {R : List Int × Int × Int}, Ev (fun k => if rd r.d t = 1152921504606846976 then some ([], 0, 18) else (viaP l r.v k t []).bind fun p => (slices_Reverse_int_int.f k p).bind fun q => some (q, rd r.d t, 0)) R → Ev (fun k => pathP k m l x s t) R := fun h => by
        refine Ev.congr (f := fun k => (runP m l x false k (startP m s)).bind fun r => (if rd r.d t = 1152921504606846976 then some ([], 0, 18) else (viaP l r.v k t []).bind fun p => (slices_Reverse_int_int.f k p).bind fun q => some (q, rd r.d t, 0))) (fun k => ?_) (Ev.bind (Ev.of (fun k => runP_mono m l x false k _) hk0) h)
        show pathP k m l x s t = _
        unfold pathP
        rw [if_pos hc, if_neg hr, Int.toNat_natCast]
      have refp : ∀ {R : List Int × Int × Int}, Ev (fun k => if rd r.d t ≥ 1152921504606846976 then some ([], 0, 18) else (mapmakerref38_way.f k m l x r.d s t).bind fun q => some (q, rd r.d t, 0)) R → Ev (fun k => mapmakerref38_Path.f k m l x s t) R := fun h => by
        unfold mapmakerref38_Path.f
        refine Ev.bind (check38_ev m l x) (Ev_pos hc (Ev_neg (by omega) (Ev_neg (by omega) (Ev_neg (by omega) ?_))))
        rw [show decide (t ≥ (m : Int)) = false from decide_eq_false (by omega)]
        refine Ev_round (fun k => by rw [mapmakerref38_Path.j0]) (Ev_neg Bool.false_ne_true (Ev.bind he' (Ev_pos t0 (Ev_pos (by show t < (r.d.length : Int); rw [hd.len]; exact t1) h))))
      by_cases ci : rd r.d t = 1152921504606846976
      · exact .inl ⟨18, by decide, prog (Ev_pos ci (Ev.now _)), refp (Ev_pos (by omega) (Ev.now _))⟩
      · have tl : rd r.d t < 1152921504606846976 := by
          have := (hd.rng t t0 t1).2
          omega
        obtain ⟨p, hp⟩ := (hI.tr t t0 t1 tl).ch
        have hsh := ch_short hG hI hp t0 t1 tl
        have hnf := hG.nfew
        obtain ⟨R, hR⟩ := way_ev hG hs hd hI rfl t t0 t1 tl
        have hv := via_ev hG hI hp t0 t1 tl [] (by simp only [List.length_nil]; omega)
        rw [List.nil_append] at hv
        refine .inr ⟨p.reverse, R, rd r.d t, prog (Ev_neg ci (Ev.bind hv (Ev.bind (rev_ev p (by omega)) (Ev.now _)))), refp (Ev_neg (by omega) (Ev.bind hR (Ev.now _))), ?_⟩
        unfold mapmakerref38_Cost.f
        refine Ev.bind (check38_ev m l x) (Ev_pos hc (Ev_neg (by omega) (Ev_neg (by omega) (Ev_neg (by omega) ?_))))
        rw [show decide (t ≥ (m : Int)) = false from decide_eq_false (by omega)]
        refine Ev_round (fun k => by rw [mapmakerref38_Cost.j0]) (Ev_neg Bool.false_ne_true ?_)
        refine cost_ev hG hI hq t hp t0 t1 tl p.reverse [] (by rw [List.append_nil]) (by rw [List.length_reverse]; omega) ?_
        exact Ev_round (fun k => by rw [mapmakerref38_Cost.l0]) (Ev_neg (by rw [List.length_reverse]; omega) (Ev_pos rfl (Ev.now _)))
  · refine .inl ⟨dchk n l x, hc, ⟨0, fun k _ => ?_⟩, ?_⟩
    · show pathP k n l x s t = _
      unfold pathP
      rw [if_neg hc]
    · unfold mapmakerref38_Path.f
      exact Ev.bind (check38_ev n l x) (Ev_neg hc (Ev.now _))
theorem DijkstraPaths : mapmakerlaw38_DijkstraPaths.Pure := by
  intro n l x s t _ _ _ _
  obtain ⟨b, hb, _⟩ := few_some n l x
  refine Ev.rounds (Ev.congr (fun k => by rw [mapmakerlaw38_DijkstraPaths.f, hb, Option.bind_some]) ?_)
  by_cases c : b = true
  · refine Ev_pos c ?_
    rcases path_cases n l x s t with ⟨e, he, p1, p2⟩ | ⟨q, q', c, p1, p2, p3⟩
    · have p1' : Ev (fun k => dijkstra_Path.f k n l x s t) ([], 0, e) := p1
      refine Ev.bind p1' (Ev.bind p2 (Ev_pos rfl ?_))
      show Ev (fun k => mapmakerlaw38_DijkstraPaths.j0 k x s t [] 0 e false n l) true
      exact Ev_round (fun k => by rw [mapmakerlaw38_DijkstraPaths.j0]) (Ev_neg Bool.false_ne_true (Ev_neg he (Ev_pos (c := (([] : List Int).length : Int) = 0) rfl fin_ev)))
    · have p1' : Ev (fun k => dijkstra_Path.f k n l x s t) (q, c, 0) := p1
      refine Ev.bind p1' (Ev.bind p2 (Ev_pos rfl ?_))
      show Ev (fun k => mapmakerlaw38_DijkstraPaths.j0 k x s t q c 0 (c != c) n l) true
      rw [show (c != c) = false from bne_eq_false_iff_eq.mpr rfl]
      exact Ev_round (fun k => by rw [mapmakerlaw38_DijkstraPaths.j0]) (Ev_neg Bool.false_ne_true (Ev_pos rfl (Ev.bind p3 (Ev_pos rfl (Ev_pos rfl fin_ev)))))
  · exact Ev_neg c fin_ev
end Go.Proofs.Ytofhgmdehglhgaa.Pure
