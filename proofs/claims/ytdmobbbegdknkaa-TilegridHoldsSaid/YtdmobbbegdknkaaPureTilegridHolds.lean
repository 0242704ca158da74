/- The tile of a point contains it, is in the Cover of every box that contains the point, and its parent is the tile of the point at the next smaller zoom: for any point, box and zoom. -/
import Derived.Test.YtdmobbbegdknkaaTgC
import Derived.Test.YtdmobbbegdknkaaPAllx33
import Derived.Test.YtdmobbbegdknkaaPAllx31
namespace Go.Proofs.Ytdmobbbegdknkaa.Pure
open Go.RowKit Go.Proofs.Ytdmobbbegdknkaa.PAll Go.Proofs.YtdmobbbegdknkaaW.PrintWords Go.Proofs.YtdmobbbegdknkaaW.PrintLast Go.Proofs.YtdmobbbegdknkaaW.PrintMore Go.Proofs.Ytdmobbbegdknkaa.Bas Go.Proofs.Ytdmobbbegdknkaa.Tg
set_option linter.unusedVariables false

theorem fin_ev : Ev (fun k => (mapmakerlaw28_lives.f k).bind fun t => some t) true := Ev.bind lives_ev (Ev.now _)
def hld (a b c d x y : Int) : Bool := gb a b c d && pt x y && decide (a ≤ x ∧ x ≤ c ∧ b ≤ y ∧ y ≤ d)
theorem holds_eq (a b c d x y : Int) : mapmakerref08_Holds.f a b c d x y = some (hld a b c d x y) := by
  unfold mapmakerref08_Holds.f hld
  rw [rgood_eq, Option.bind_some, rvalid_eq, Option.bind_some]
  by_cases g : gb a b c d = true
  · rw [if_pos g, g]
    by_cases p : pt x y = true
    · rw [if_pos p, p]
      repeat' split
      all_goals (apply congrArg some; rw [Bool.eq_iff_iff]; simp; omega)
    · rw [if_neg p, Bool.eq_false_iff.2 p]
      rfl
  · rw [if_neg g, Bool.eq_false_iff.2 g]
    rfl
theorem pt_iff {x y : Int} : pt x y = true ↔ 0 ≤ x ∧ x < 32768 ∧ 0 ≤ y ∧ y < 32768 := by
  unfold pt
  exact decide_eq_true_iff
theorem tof_in {x y z : Int} (p : 0 ≤ x ∧ x < 32768 ∧ 0 ≤ y ∧ y < 32768) (h0 : 0 ≤ z) (h7 : z ≤ 7) : tof x y z = (z, x / sz z, y / sz z, 0) ∧ IsTile z (x / sz z) (y / sz z) := by
  have s := sz_pos h0 h7
  have d0 : 0 ≤ x / sz z ∧ x / sz z ≤ x := ⟨Int.ediv_nonneg (by omega) (by omega), Int.ediv_le_self _ (by omega)⟩
  have d1 : 0 ≤ y / sz z ∧ y / sz z ≤ y := ⟨Int.ediv_nonneg (by omega) (by omega), Int.ediv_le_self _ (by omega)⟩
  constructor
  · unfold tof
    rw [if_pos (pt_iff.2 p), if_neg (by omega), tdiv_nn (by omega), tdiv_nn (by omega), wrap_in ⟨by omega, by omega⟩, wrap_in ⟨by omega, by omega⟩]
  · refine ⟨h0, h7, d0.1, ?_, d1.1, ?_⟩
    · rcases sides h0 h7 with k | k | k | k | k | k | k | k <;> obtain ⟨_, k1, k⟩ := k <;> rw [k1, k] <;> omega
    · rcases sides h0 h7 with k | k | k | k | k | k | k | k <;> obtain ⟨_, k1, k⟩ := k <;> rw [k1, k] <;> omega
theorem scan {l : List S30} {z x y : Int} (hl : (l.length : Int) ≤ 20000) (n : Nat) : ∀ (i : Int), 0 ≤ i → (l.length : Int) - i = n → (⟨z, x, y⟩ : S30) ∈ l.drop i.toNat → Ev (fun k => mapmakerlaw28_TilegridHolds.l0 k l i z x y) true := by
  induction n with
  | zero =>
    intro i h0 hn hm
    rw [drop_end (by omega)] at hm
    cases hm
  | succ n ih =>
    intro i h0 hn hm
    refine Ev_round (fun k => by rw [mapmakerlaw28_TilegridHolds.l0]) ?_
    refine Ev_pos (by omega) (Ev_pos h0 ?_)
    by_cases c : (((rd_T30 l i).f0) == z && (((rd_T30 l i).f1) == x && (((rd_T30 l i).f2) == y))) = true
    · exact Ev_pos c fin_ev
    · refine Ev_neg c ?_
      rw [wrap_in (x := i + 1) ⟨by omega, by omega⟩]
      refine ih (i + 1) (by omega) (by omega) ?_
      rw [show l.drop i.toNat = rd_T30 l i :: l.drop (i + 1).toNat from drop_at z30 h0 (by omega)] at hm
      rcases List.mem_cons.1 hm with h | h
      · rw [← h] at c
        simp at c
      · exact h
theorem TilegridHolds : mapmakerlaw28_TilegridHolds.Pure := by
  intro x y a b c d z _ _ hz
  have hz := isI hz
  refine Ev.rounds (Ev.congr (fun k => by rw [mapmakerlaw28_TilegridHolds.f, of_eq, Option.bind_some]) ?_)
  by_cases p : 0 ≤ x ∧ x < 32768 ∧ 0 ≤ y ∧ y < 32768
  · by_cases h : 0 ≤ z ∧ z ≤ 7
    · obtain ⟨h0, h7⟩ := h
      obtain ⟨e, g⟩ := tof_in p h0 h7
      have s := sz_pos h0 h7
      have q0 := span_fits h0 h7 g.2.2.1 g.2.2.2.1
      have q1 := span_fits h0 h7 g.2.2.2.2.1 g.2.2.2.2.2
      have p0 := pw_pos z
      have g' := g
      unfold IsTile at g'
      rw [e]
      have eb : box z (x / sz z) (y / sz z) = (x / sz z * sz z, y / sz z * sz z, (x / sz z + 1) * sz z, (y / sz z + 1) * sz z, 0) := by
        unfold box
        rw [if_pos g, wrap_in (x := x / sz z * sz z) ⟨by omega, by omega⟩, wrap_in (x := y / sz z * sz z) ⟨by omega, by omega⟩, wrap_in (x := x / sz z + 1) ⟨by omega, by omega⟩, wrap_in (x := y / sz z + 1) ⟨by omega, by omega⟩, wrap_in (x := (x / sz z + 1) * sz z) ⟨by omega, by omega⟩, wrap_in (x := (y / sz z + 1) * sz z) ⟨by omega, by omega⟩]
      refine Ev_pos rfl (Ev.congr (fun k => by rw [box_eq, Option.bind_some, eb]) (Ev_pos rfl (Ev.congr (fun k => by rw [holds_eq, Option.bind_some]) ?_)))
      have hh : hld (x / sz z * sz z) (y / sz z * sz z) ((x / sz z + 1) * sz z) ((y / sz z + 1) * sz z) x y = true := by
        unfold hld
        have m0 := Int.emod_add_mul_ediv x (sz z)
        have m1 := Int.emod_add_mul_ediv y (sz z)
        have r0 := Int.emod_nonneg x (show sz z ≠ 0 by omega)
        have r1 := Int.emod_lt_of_pos x (show 0 < sz z by omega)
        have r2 := Int.emod_nonneg y (show sz z ≠ 0 by omega)
        have r3 := Int.emod_lt_of_pos y (show 0 < sz z by omega)
        have t0 : (x / sz z + 1) * sz z = x / sz z * sz z + sz z := by rw [Int.add_mul, Int.one_mul]
        have t1 : (y / sz z + 1) * sz z = y / sz z * sz z + sz z := by rw [Int.add_mul, Int.one_mul]
        rw [Int.mul_comm] at m0 m1
        rw [gb_iff.2 ⟨by omega, by omega, by omega, by omega, by omega, by omega⟩, pt_iff.2 p, decide_eq_true ⟨by omega, by omega, by omega, by omega⟩]
        rfl
      rw [hh]
      refine Ev_round (fun k => by rw [mapmakerlaw28_TilegridHolds.j0]) ?_
      have go : Ev (fun k => mapmakerlaw28_TilegridHolds.j1 k z x y a b c d z (x / sz z) (y / sz z)) true := by
        refine Ev_round (fun k => by rw [mapmakerlaw28_TilegridHolds.j1, holds_eq, Option.bind_some]) ?_
        by_cases hb : hld a b c d x y = true
        · refine Ev_pos hb (Ev.bind (cover_ev a b c d z) ?_)
          unfold hld at hb
          simp only [Bool.and_eq_true, decide_eq_true_eq] at hb
          obtain ⟨⟨hb1, _⟩, hb2⟩ := hb
          have hg := gb_iff.1 hb1
          refine scan (cov_length _ _ _ _ _) (cov a b c d z).length 0 (by omega) (by omega) ?_
          rw [show (0 : Int).toNat = 0 from rfl, List.drop_zero]
          unfold cov
          rw [if_pos ⟨hb1, h0, h7⟩]
          have m0 := Int.emod_add_mul_ediv x (sz z)
          have m1 := Int.emod_add_mul_ediv y (sz z)
          have r0 := Int.emod_nonneg x (show sz z ≠ 0 by omega)
          have r1 := Int.emod_lt_of_pos x (show 0 < sz z by omega)
          have r2 := Int.emod_nonneg y (show sz z ≠ 0 by omega)
          have r3 := Int.emod_lt_of_pos y (show 0 < sz z by omega)
          have t0 : (x / sz z + 1) * sz z = x / sz z * sz z + sz z := by rw [Int.add_mul, Int.one_mul]
          have t1 : (y / sz z + 1) * sz z = y / sz z * sz z + sz z := by rw [Int.add_mul, Int.one_mul]
          rw [Int.mul_comm] at m0 m1
          have k0 := (meets_iff h0 h7 hg.1 hg.2.1 hg.2.2.1 g.2.2.1 g.2.2.2.1).1 ⟨by omega, by omega⟩
          have k1 := (meets_iff h0 h7 hg.2.2.2.1 hg.2.2.2.2.1 hg.2.2.2.2.2 g.2.2.2.2.1 g.2.2.2.2.2).1 ⟨by omega, by omega⟩
          exact mem_rows (by omega) (by omega) (by omega) (by omega)
        · exact Ev_neg hb fin_ev
      refine Ev_neg (by decide) (Ev.congr (fun k => by rw [par_eq, Option.bind_some]) ?_)
      unfold par
      by_cases cz : z = 0
      · rw [if_neg (fun h => h.2 cz)]
        exact Ev_neg (by decide) (Ev_pos cz go)
      · rw [if_pos ⟨g, cz⟩]
        refine Ev_pos rfl (Ev.congr (fun k => by rw [of_eq, Option.bind_some]) ?_)
        have w1 : wrap64 (z - 1) = z - 1 := wrap_in ⟨by omega, by omega⟩
        obtain ⟨e', _⟩ := tof_in p (z := z - 1) (by omega) (by omega)
        rw [w1, e']
        refine Ev_pos rfl (Ev_neg ?_ go)
        have q : ∀ v : Int, 0 ≤ v → v < 32768 → wrap64 (Int.tdiv (v / sz z) 2) = v / sz (z - 1) := fun v v0 v1 => by
          have d0 : 0 ≤ v / sz z ∧ v / sz z ≤ v := ⟨Int.ediv_nonneg (by omega) (by omega), Int.ediv_le_self _ (by omega)⟩
          rw [tdiv_nn d0.1, wrap_in ⟨by omega, by omega⟩]
          have hs : sz (z - 1) = sz z * 2 := by
            rcases zs h0 h7 with k | k | k | k | k | k | k | k <;> subst k <;> first | omega | decide +kernel
          rw [hs, Int.ediv_ediv_of_nonneg (by omega)]
        rw [q x p.1 p.2.1, q y p.2.2.1 p.2.2.2]
        simp
    · have e : sz z = 0 := by
        by_cases k : sz z = 0
        · exact k
        · exact absurd (sz_ne.1 k) h
      have t : tof x y z = (0, 0, 0, 2) := by
        unfold tof
        rw [if_pos (pt_iff.2 p), if_pos e]
      rw [t]
      exact Ev_neg (by decide) (Ev_pos rfl fin_ev)
  · have t : tof x y z = (0, 0, 0, 11) := by
      unfold tof
      rw [if_neg (fun h => p (pt_iff.1 h))]
    rw [t]
    exact Ev_neg (by decide) (Ev_pos rfl fin_ev)
end Go.Proofs.Ytdmobbbegdknkaa.Pure
