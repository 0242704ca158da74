/- The reference's Weights: the same list. -/
import Derived.Test.YtpjeomjingocbaaTrW
import Derived.Test.YtpjeomjingocbaaTrC
import Derived.Test.YtpjeomjingocbaaPAllx21
import Derived.Test.YtpjeomjingocbaaPAllx22
import Derived.Test.YtpjeomjingocbaaPAllx23
namespace Go.Proofs.Ytpjeomjingocbaa.Tr
open Go.RowKit Go.Proofs.Ytpjeomjingocbaa.PAll Go.Proofs.YtpjeomjingocbaaW.PrintWords Go.Proofs.YtpjeomjingocbaaW.PrintLast Go.Proofs.YtpjeomjingocbaaW.PrintMore Go.Proofs.Ytpjeomjingocbaa.Bas Go.Proofs.Ytpjeomjingocbaa.Nm
set_option linter.unusedVariables false

theorem rspeed_eq (c : Int) : mapmakerref18_Speed.f c = some (spd c) := by
  unfold mapmakerref18_Speed.f
  rw [Option.bind_some]
  by_cases h0 : c < 1
  · rw [if_pos h0, spd, if_pos h0]
  by_cases h1 : c > 6
  · rw [if_neg h0, if_pos h1, spd, if_neg h0, if_pos (by omega)]
  rw [if_neg h0, if_neg h1, if_pos (by omega), if_pos (by simp; omega)]
  have h : c = 1 ∨ c = 2 ∨ c = 3 ∨ c = 4 ∨ c = 5 ∨ c = 6 := by omega
  rcases h with h | h | h | h | h | h <;> subst h <;> decide
theorem rbase_l0 (N : List Int) (P : List S64) (R : List S48) (hR : (R.length : Int) ≤ 40) (m : Nat) : ∀ (i : Int) (out : List Int), 0 ≤ i → i ≤ (R.length : Int) → (R.length : Int) - i = m → (out.length : Int) = i →
    Ev (fun k => mapmakerref46_Base.l0 k out i N P R) (out ++ (R.drop i.toNat).map bas) := by
  induction m with
  | zero =>
    intro i out h0 h1 hn ho
    refine Ev_round (fun k => by rw [mapmakerref46_Base.l0]) (Ev_neg (by omega) ?_)
    rw [drop_end (by omega), List.map_nil, List.append_nil]
    exact Ev.now _
  | succ m ih =>
    intro i out h0 h1 hn ho
    refine Ev_round (fun k => by rw [mapmakerref46_Base.l0, rspeed_eq, Option.bind_some]) ?_
    refine Ev_pos (by omega) (Ev_pos h0 (Ev_pos (by omega) ?_))
    rw [wrap_in (x := i + 1) ⟨by omega, by omega⟩]
    refine Ev_eq ?_ (ih (i + 1) _ (by omega) (by omega) (by omega) (by rw [List.length_append]; simp; omega))
    rw [show R.drop i.toNat = rd_T48 R i :: R.drop (i + 1).toNat from drop_at z48 h0 (by omega), List.map_cons, List.append_assoc]
    rfl
theorem rbase_ev (N : List Int) (P : List S64) (R : List S48) (hR : (R.length : Int) ≤ 40) : Ev (fun k => mapmakerref46_Base.f k N P R) (R.map bas) := by
  refine Ev.congr (fun k => by rw [mapmakerref46_Base.f]) ?_
  have := rbase_l0 N P R hR R.length 0 [] (by omega) (by omega) (by omega) (by simp)
  simpa using this
/-- The reference's weight of one piece, report by report. -/
def run (b way at' : Int) (w : Int) (l : List S43) : Int := l.foldl (fun w x => if hit way at' x = true then wgt b x.f1 else w) w
theorem run_eq (b way at' : Int) : ∀ (l : List S43) (a : Int), run b way at' (wgt b a) l = wgt b (l.foldl (fun a x => if hit way at' x = true then x.f1 else a) a)
  | [], a => rfl
  | x :: xs, a => by
    have := run_eq b way at' xs
    unfold run at this ⊢
    rw [List.foldl_cons, List.foldl_cons]
    by_cases h : hit way at' x = true
    · rw [if_pos h, if_pos h]
      exact this _
    · rw [if_neg h, if_neg h]
      exact this _
theorem rweights_l1 {N : List Int} {P : List S64} {R : List S48} {l : List S43} {at' : Int} {out : List Int} {i : Int} {v : List Int × Int} (hl : (l.length : Int) ≤ 10000) (hg : ∀ x ∈ l, rep1 x = 0) (hb : ∀ x ∈ R, 0 ≤ bas x ∧ bas x ≤ 671088640) (h0 : 0 ≤ i) (hi : i < (R.length : Int)) (ho : (out.length : Int) ≤ 40) (m : Nat) : ∀ (j w : Int), 0 ≤ j → j ≤ (l.length : Int) → (l.length : Int) - j = m →
    Ev (fun k => mapmakerref48_Weights.l0 k l at' (R.map bas) (out ++ [run (bas (rd_T48 R i)) (rd_T48 R i).f2 at' w (l.drop j.toNat)]) (wrap64 (i + 1)) N P R) v → Ev (fun k => mapmakerref48_Weights.l1 k l at' (R.map bas) out i w j N P R) v := by
  have e0 : rd (R.map bas) i = bas (rd_T48 R i) := by
    show (R.map bas).getD i.toNat 0 = bas (R.getD i.toNat z48)
    have hlt : i.toNat < R.length := by omega
    rw [List.getD_eq_getElem?_getD, List.getD_eq_getElem?_getD, List.getElem?_map, List.getElem?_eq_getElem hlt]
    rfl
  have hlm : ((R.map bas).length : Int) = (R.length : Int) := by rw [List.length_map]
  induction m with
  | zero =>
    intro j w g0 g1 gn next
    refine Ev_round (fun k => by rw [mapmakerref48_Weights.l1]) (Ev_neg (by omega) (Ev_pos (by omega) ?_))
    rw [drop_end (by omega)] at next
    exact next
  | succ m ih =>
    intro j w g0 g1 gn next
    have hj : j < (l.length : Int) := by omega
    have hw : wrap64 (j + 1) = j + 1 := wrap_in ⟨by omega, by omega⟩
    rw [show l.drop j.toNat = rd_T43 l j :: l.drop (j + 1).toNat from drop_at z43 g0 hj] at next
    unfold run at next
    rw [List.foldl_cons] at next
    have skip : ¬ hit (rd_T48 R i).f2 at' (rd_T43 l j) = true → Ev (fun k => mapmakerref48_Weights.j3 k l at' (R.map bas) out i w j true N P R) v := fun hs => by
      rw [if_neg hs] at next
      refine Ev_round (fun k => by rw [mapmakerref48_Weights.j3, hw]) ?_
      exact Ev_pos rfl (ih (j + 1) w (by omega) (by omega) (by omega) next)
    refine Ev_round (fun k => by rw [mapmakerref48_Weights.l1]) (Ev_pos hj (Ev_pos g0 (Ev_pos h0 (Ev_pos hi ?_))))
    by_cases c0 : (rd_T43 l j).f0 = (rd_T48 R i).f2
    · refine Ev_pos c0 ?_
      by_cases c1 : (rd_T43 l j).f2 > at'
      · refine Ev_pos c1 (skip ?_)
        unfold hit
        rw [decide_eq_true_eq]
        omega
      · refine Ev_neg c1 ?_
        by_cases c2 : (rd_T43 l j).f3 ≤ at'
        · rw [decide_eq_true c2]
          refine skip ?_
          unfold hit
          rw [decide_eq_true_eq]
          omega
        · rw [decide_eq_false c2]
          have hh : hit (rd_T48 R i).f2 at' (rd_T43 l j) = true := decide_eq_true ⟨c0, by omega, by omega⟩
          rw [if_pos hh] at next
          refine Ev_round (fun k => by rw [mapmakerref48_Weights.j3, hw, e0]) (Ev_neg (by decide) (Ev_pos h0 (Ev_pos (by omega) (Ev_pos g0 (Ev_pos hj ?_)))))
          by_cases c3 : (rd_T43 l j).f1 = 0
          · rw [wgt, if_pos c3] at next
            exact Ev_pos c3 (ih (j + 1) _ (by omega) (by omega) (by omega) next)
          · rw [wgt, if_neg c3] at next
            have b0 : 0 ≤ bas (rd_T48 R i) ∧ bas (rd_T48 R i) ≤ 671088640 := hb _ (getD_mem z48 h0 hi)
            have n0 : 0 ≤ (rd_T43 l j).f1 ∧ (rd_T43 l j).f1 ≤ 1000 := rep1_bd (hg _ (getD_mem z43 g0 hj))
            have mb := mul_bd b0 n0
            refine Ev_neg c3 ?_
            rw [wrap_in (x := bas (rd_T48 R i) * (rd_T43 l j).f1) ⟨by omega, by omega⟩, tdiv_nn mb.1, wrap_in ⟨by omega, by omega⟩, mn_eq]
            exact ih (j + 1) _ (by omega) (by omega) (by omega) next
    · refine Ev_neg c0 (skip ?_)
      unfold hit
      rw [decide_eq_true_eq]
      exact fun h => c0 h.1
theorem rweights_l0 {N : List Int} {P : List S64} {R : List S48} {l : List S43} {at' : Int} (hl : (l.length : Int) ≤ 10000) (hR : (R.length : Int) ≤ 40) (hg : ∀ x ∈ l, rep1 x = 0) (hb : ∀ x ∈ R, 0 ≤ bas x ∧ bas x ≤ 671088640) (m : Nat) : ∀ (i : Int), 0 ≤ i → i ≤ (R.length : Int) → (R.length : Int) - i = m →
    Ev (fun k => mapmakerref48_Weights.l0 k l at' (R.map bas) (wts at' l (R.take i.toNat)) i N P R) (wts at' l R, 0) := by
  induction m with
  | zero =>
    intro i h0 h1 hn
    refine Ev_round (fun k => by rw [mapmakerref48_Weights.l0]) (Ev_neg (by omega) ?_)
    rw [List.take_of_length_le (by omega)]
    exact Ev.now _
  | succ m ih =>
    intro i h0 h1 hn
    have hi : i < (R.length : Int) := by omega
    have e0 : rd (R.map bas) i = bas (rd_T48 R i) := by
      show (R.map bas).getD i.toNat 0 = bas (R.getD i.toNat z48)
      have hlt : i.toNat < R.length := by omega
      rw [List.getD_eq_getElem?_getD, List.getD_eq_getElem?_getD, List.getElem?_map, List.getElem?_eq_getElem hlt]
      rfl
    have b0 : 0 ≤ bas (rd_T48 R i) ∧ bas (rd_T48 R i) ≤ 671088640 := hb _ (getD_mem z48 h0 hi)
    refine Ev_round (fun k => by rw [mapmakerref48_Weights.l0, e0]) (Ev_pos hi (Ev_pos h0 (Ev_pos (by rw [List.length_map]; exact hi) ?_)))
    refine rweights_l1 hl hg hb h0 hi (by unfold wts; rw [List.length_map, List.length_take]; omega) l.length 0 _ (by omega) (by omega) (by omega) ?_
    rw [show l.drop (0 : Int).toNat = l from List.drop_zero, wrap_in (x := i + 1) ⟨by omega, by omega⟩]
    have r := run_eq (bas (rd_T48 R i)) (rd_T48 R i).f2 at' l 100
    rw [wgt_100 b0.1 b0.2] at r
    rw [r]
    refine Ev.congr (fun k => ?_) (ih (i + 1) (by omega) (by omega) (by omega))
    rw [show R.take (i + 1).toNat = R.take i.toNat ++ [rd_T48 R i] from take_at z48 h0 hi]
    unfold wts
    rw [List.map_append]
    rfl
theorem rweights_ev (N : List Int) (P : List S64) (R : List S48) (l : List S43) (at' : Int) (hN : (N.length : Int) ≤ 9223372036854775807) (hR : Fits R) (h40 : (R.length : Int) ≤ 40) (hl : (l.length : Int) ≤ 9223372036854775807) :
    Ev (fun k => mapmakerref48_Weights.f k N P R l at') (Wt N P R l at') := by
  refine Ev.congr (fun k => by rw [mapmakerref48_Weights.f]) (Ev.bind (rroad_ev N P R hN hR) ?_)
  unfold Wt
  by_cases c0 : rdk N P R = 0
  · rw [if_pos c0]
    refine Ev_pos c0 (Ev.bind (rtck_ev l hl) ?_)
    by_cases c1 : rck l = 0
    · rw [if_pos c1]
      refine Ev_pos c1 ?_
      by_cases c2 : at' < 0
      · rw [if_pos (Or.inl c2)]
        refine Ev_pos c2 (Ev_round (fun k => by rw [mapmakerref48_Weights.j0]) ?_)
        exact Ev_pos rfl (Ev.now _)
      · refine Ev_neg c2 (Ev_round (fun k => by rw [mapmakerref48_Weights.j0]) ?_)
        by_cases c3 : at' > 1073741824
        · rw [if_pos (Or.inr c3)]
          exact Ev_pos (decide_eq_true c3) (Ev.now _)
        · rw [if_neg (by omega)]
          refine Ev_neg (by rw [decide_eq_true_eq]; exact c3) (Ev.bind (rbase_ev N P R h40) ?_)
          obtain ⟨h1, h2⟩ := rck_zero c1
          have := rweights_l0 (N := N) (P := P) (at' := at') h1 h40 h2 (rdk_zero c0) R.length 0 (by omega) (by omega) (by omega)
          simpa [wts] using this
    · rw [if_neg c1]
      exact Ev_neg c1 (Ev.bind (rtck_ev l hl) (Ev.now _))
  · rw [if_neg c0]
    exact Ev_neg c0 (Ev.now _)
end Go.Proofs.Ytpjeomjingocbaa.Tr
