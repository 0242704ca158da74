/- A report that is not in effect changes nothing, and of the reports in effect for a way the last one counts (up to 20 nodes, 40 pieces, 40 reports and one more). -/
import Derived.Test.YtpjeomjingocbaaTrW
import Derived.Test.YtpjeomjingocbaaPAllx26
namespace Go.Proofs.Ytpjeomjingocbaa.Pure
open Go.RowKit Go.Proofs.Ytpjeomjingocbaa.PAll Go.Proofs.YtpjeomjingocbaaW.PrintWords Go.Proofs.YtpjeomjingocbaaW.PrintLast Go.Proofs.YtpjeomjingocbaaW.PrintMore Go.Proofs.Ytpjeomjingocbaa.Bas Go.Proofs.Ytpjeomjingocbaa.Tr
set_option linter.unusedVariables false

theorem repl_all : ∀ {l : List S43}, (∀ x ∈ l, rep1 x = 0) → repl l = 0
  | [], _ => rfl
  | x :: xs, h => by
    rw [repl, if_pos (h x List.mem_cons_self)]
    exact repl_all (fun y hy => h y (List.mem_cons_of_mem _ hy))
theorem rck_snoc {l : List S43} {x : S43} (hl : (l.length : Int) ≤ 40) (h : rck l = 0) (hx : rep1 x = 0) : rck (l ++ [x]) = 0 := by
  unfold rck
  rw [if_neg (by rw [List.length_append]; simp; omega)]
  refine repl_all (fun y hy => ?_)
  rcases List.mem_append.1 hy with e | e
  · exact (rck_zero h).2 y e
  · rw [List.mem_singleton.1 e]
    exact hx
theorem wts_rd (at' : Int) (l : List S43) (R : List S48) {i : Int} (h0 : 0 ≤ i) (hi : i < (R.length : Int)) : rd (wts at' l R) i = wgt (bas (rd_T48 R i)) (pct (rd_T48 R i).f2 at' l) := by
  show (wts at' l R).getD i.toNat 0 = wgt (bas (R.getD i.toNat z48)) (pct (R.getD i.toNat z48).f2 at' l)
  have hlt : i.toNat < R.length := by omega
  unfold wts
  rw [List.getD_eq_getElem?_getD, List.getD_eq_getElem?_getD, List.getElem?_map, List.getElem?_eq_getElem hlt]
  rfl
theorem last_l1 (N : List Int) (P : List S64) (R : List S48) (l : List S43) (w : S43) (a : Int) (hR : (R.length : Int) ≤ 40) (n : Nat) : ∀ (i : Int), 0 ≤ i → (R.length : Int) - i = n →
    Ev (fun k => mapmakerlaw48_TrafficLast.l1 k (wts a l R) (wts a (l ++ [w]) R) (wts a [w] R) (decide (w.f2 ≤ a ∧ a < w.f3)) i N P R w.f0 w.f1 w.f2 w.f3) true := by
  have e0 := wts_length a l R
  have e1 := wts_length a (l ++ [w]) R
  have e2 := wts_length a [w] R
  induction n with
  | zero =>
    intro i h0 hn
    refine Ev_round (fun k => by rw [mapmakerlaw48_TrafficLast.l1]) (Ev_neg (by omega) ?_)
    exact fin_ev
  | succ n ih =>
    intro i h0 hn
    have hi : i < (R.length : Int) := by omega
    have next := ih (i + 1) (by omega) (by omega)
    have r0 := wts_rd a l R h0 hi
    have r1 := wts_rd a (l ++ [w]) R h0 hi
    have r2 := wts_rd a [w] R h0 hi
    rw [pct_snoc] at r1
    have s2 : pct (rd_T48 R i).f2 a [w] = if hit (rd_T48 R i).f2 a w = true then w.f1 else 100 := pct_snoc _ _ [] w
    rw [s2] at r2
    have j : ∀ b : Bool, (b = true ↔ hit (rd_T48 R i).f2 a w = true) → Ev (fun k => mapmakerlaw48_TrafficLast.j6 k (wts a l R) (wts a (l ++ [w]) R) (wts a [w] R) (decide (w.f2 ≤ a ∧ a < w.f3)) i (rd (wts a l R) i) b N P R w.f0 w.f1 w.f2 w.f3) true := fun b hb => by
      refine Ev_round (fun k => by rw [mapmakerlaw48_TrafficLast.j6, wrap_in (x := i + 1) ⟨by omega, by omega⟩]) ?_
      by_cases c : b = true
      · rw [if_pos (hb.1 c)] at r1 r2
        exact Ev_pos c (Ev_pos h0 (Ev_pos (by omega) (Ev_pos (by omega) (Ev_pos (by rw [r1, r2]) next))))
      · rw [if_neg (fun h => c (hb.2 h))] at r1
        exact Ev_neg c (Ev_pos h0 (Ev_pos (by omega) (Ev_pos (by rw [r1, r0]) next)))
    refine Ev_round (fun k => by rw [mapmakerlaw48_TrafficLast.l1]) (Ev_pos (by omega) (Ev_pos h0 ?_))
    unfold hit at j
    by_cases c : w.f2 ≤ a ∧ a < w.f3
    · refine Ev_pos (decide_eq_true c) (Ev_pos hi (j _ ?_))
      rw [beq_iff_eq, decide_eq_true_eq]
      exact ⟨fun h => ⟨h.symm, c.1, c.2⟩, fun h => h.1.symm⟩
    · refine Ev_neg (by rw [decide_eq_true_eq]; exact c) (j false ?_)
      rw [decide_eq_true_eq]
      exact ⟨fun h => absurd h (by decide), fun h => absurd h.2 c⟩
theorem copy_l0 (x7 : List Int) (N : List Int) (P : List S64) (R : List S48) (l m : List S43) (a w0 w1 w2 w3 : Int) (hl : (l.length : Int) ≤ 40) {r : Bool} (n : Nat) : ∀ (i : Int), 0 ≤ i → (l.length : Int) - i = n →
    Ev (fun k => mapmakerlaw48_TrafficLast.l0 k x7 l (l.length : Int) N P R l m a w0 w1 w2 w3) r → Ev (fun k => mapmakerlaw48_TrafficLast.l0 k x7 (l.take i.toNat) i N P R l m a w0 w1 w2 w3) r := by
  induction n with
  | zero =>
    intro i h0 hn h
    rw [List.take_of_length_le (by omega), show i = (l.length : Int) by omega]
    exact h
  | succ n ih =>
    intro i h0 hn h
    have hi : i < (l.length : Int) := by omega
    have t : l.take (i + 1).toNat = l.take i.toNat ++ [rd_T43 l i] := take_at z43 h0 hi
    have next := ih (i + 1) (by omega) (by omega) h
    rw [t] at next
    refine Ev_round (fun k => by rw [mapmakerlaw48_TrafficLast.l0, wrap_in (x := i + 1) ⟨by omega, by omega⟩]) (Ev_pos hi (Ev_pos h0 (Ev_pos (by rw [List.length_take]; omega) ?_)))
    exact next
theorem TrafficLast : mapmakerlaw48_TrafficLast.Pure := by
  intro N P R l m a w0 w1 w2 w3 ⟨hN, _, hR⟩ ⟨hl, _, _⟩ _
  have fN := len_ok hN.1
  have fR : Fits R := ⟨len_ok hR.1, fun x hx => len_ok (hR.2 x hx).2.2.2.2.2.1.1⟩
  have fl := len_ok hl.1
  refine Ev.rounds (Ev.congr (fun k => by rw [mapmakerlaw48_TrafficLast.f]) ?_)
  obtain ⟨b, hb, h40⟩ := few_ev N P R
  refine Ev.bind hb ?_
  have out : Ev (fun k => mapmakerlaw48_TrafficLast.j0 k true N P R l m a w0 w1 w2 w3) true := by
    refine Ev_round (fun k => by rw [mapmakerlaw48_TrafficLast.j0]) ?_
    exact Ev_pos rfl fin_ev
  have out1 : ∀ x, Ev (fun k => mapmakerlaw48_TrafficLast.j1 k x true N P R l m a w0 w1 w2 w3) true := fun x => by
    refine Ev_round (fun k => by rw [mapmakerlaw48_TrafficLast.j1]) ?_
    exact Ev_pos rfl fin_ev
  by_cases c : b = true
  · refine Ev_pos c ?_
    by_cases d : (l.length : Int) > 40
    · rw [decide_eq_true d]
      exact out
    · rw [decide_eq_false d]
      have h := h40 c
      refine Ev_round (fun k => by rw [mapmakerlaw48_TrafficLast.j0]) (Ev_neg (by decide) ?_)
      refine Ev.bind (weights_ev N P R l a fN fR h fl) ?_
      by_cases c0 : (Wt N P R l a).2 = 0
      · refine Ev_pos c0 (Ev.bind (tck_ev [(⟨w0, w1, w2, w3⟩ : S43)] (by simp)) ?_)
        by_cases c1 : rck [(⟨w0, w1, w2, w3⟩ : S43)] = 0
        · rw [show (rck [(⟨w0, w1, w2, w3⟩ : S43)] != 0) = false from bne_eq_false_iff_eq.2 c1]
          obtain ⟨f0, f1, f2, f3⟩ := Wt_full c0
          rw [f0]
          refine Ev_round (fun k => by rw [mapmakerlaw48_TrafficLast.j1]) (Ev_neg (by decide) ?_)
          refine copy_l0 (wts a l R) N P R l m a w0 w1 w2 w3 (by omega) l.length 0 (by omega) (by omega) ?_
          refine Ev_round (fun k => by rw [mapmakerlaw48_TrafficLast.l0]) (Ev_neg (by omega) (Ev_pos (by omega) ?_))
          have hx : rep1 (⟨w0, w1, w2, w3⟩ : S43) = 0 := (rck_zero c1).2 _ List.mem_cons_self
          have w1' : Wt N P R (l ++ [(⟨w0, w1, w2, w3⟩ : S43)]) a = (wts a (l ++ [(⟨w0, w1, w2, w3⟩ : S43)]) R, 0) := by
            unfold Wt
            rw [if_pos f1, if_pos (rck_snoc (by omega) f2 hx), if_neg f3]
          have w2' : Wt N P R [(⟨w0, w1, w2, w3⟩ : S43)] a = (wts a [(⟨w0, w1, w2, w3⟩ : S43)] R, 0) := by
            unfold Wt
            rw [if_pos f1, if_pos c1, if_neg f3]
          have e0 := wts_length a l R
          have e1 := wts_length a (l ++ [(⟨w0, w1, w2, w3⟩ : S43)]) R
          have e2 := wts_length a [(⟨w0, w1, w2, w3⟩ : S43)] R
          refine Ev.bind (Ev_eq w1' (weights_ev N P R _ a fN fR h (by rw [List.length_append]; simp; omega))) ?_
          refine Ev.bind (Ev_eq w2' (weights_ev N P R _ a fN fR h (by simp))) ?_
          refine Ev_pos rfl (Ev_pos rfl (Ev_pos (by simp only []; omega) (Ev_pos (by simp only []; omega) ?_)))
          rw [show ((((wts a l R).length : Int)) != (R.length : Int)) = false from bne_eq_false_iff_eq.2 (by omega)]
          refine Ev_round (fun k => by rw [mapmakerlaw48_TrafficLast.j3]) (Ev_neg (by decide) ?_)
          have go : ∀ t : Bool, (t = true ↔ (w2 ≤ a ∧ a < w3)) → Ev (fun k => mapmakerlaw48_TrafficLast.j4 k (wts a l R) (wts a (l ++ [(⟨w0, w1, w2, w3⟩ : S43)]) R) (wts a [(⟨w0, w1, w2, w3⟩ : S43)] R) t N P R w0 w1 w2 w3) true := fun t ht => by
            have : t = decide (w2 ≤ a ∧ a < w3) := by
              rw [Bool.eq_iff_iff, decide_eq_true_eq]
              exact ht
            rw [this]
            refine Ev_round (fun k => by rw [mapmakerlaw48_TrafficLast.j4]) ?_
            exact last_l1 N P R l ⟨w0, w1, w2, w3⟩ a h R.length 0 (by omega) (by omega)
          by_cases c2 : w2 ≤ a
          · refine Ev_pos c2 (go _ ?_)
            rw [decide_eq_true_eq]
            omega
          · refine Ev_neg c2 (go false ⟨fun h => absurd h (by decide), fun h => absurd h.1 c2⟩)
        · rw [show (rck [(⟨w0, w1, w2, w3⟩ : S43)] != 0) = true from bne_iff_ne.2 c1]
          exact out1 _
      · exact Ev_neg c0 (out1 _)
  · exact Ev_neg c out
end Go.Proofs.Ytpjeomjingocbaa.Pure
