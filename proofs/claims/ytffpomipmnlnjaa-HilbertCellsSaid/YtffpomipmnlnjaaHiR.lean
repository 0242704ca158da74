/- The reference's Index, and Point with the reference's. -/
import Derived.Test.YtffpomipmnlnjaaHi
namespace Go.Proofs.Ytffpomipmnlnjaa.Hi
open Go.RowKit Go.Proofs.Ytffpomipmnlnjaa.PAll Go.Proofs.YtffpomipmnlnjaaW.PrintWords Go.Proofs.YtffpomipmnlnjaaW.PrintLast Go.Proofs.YtffpomipmnlnjaaW.PrintMore Go.Proofs.Ytffpomipmnlnjaa.Bas
set_option linter.unusedVariables false
set_option linter.unusedSimpArgs false

theorem ref_l1 {m : Nat} (hm : m ≤ 14) {n x y R : Int}
    (hj : Ev (fun k => if x < 2 ^ m then mapmakerref10_index.j2 k ((m : Int) + 1) (wrap64 (4 * n)) (2 ^ m) (decide (y < 2 ^ m)) x y else mapmakerref10_index.j2 k ((m : Int) + 1) (wrap64 (4 * n)) (2 ^ m) false x y) R) (d : Nat) :
    ∀ j : Nat, j + d = m → Ev (fun k => mapmakerref10_index.l1 k ((m : Int) + 1) n (2 ^ j) ((j : Int) + 1) x y) R := by
  induction d with
  | zero =>
    intro j e
    have : j = m := by omega
    subst this
    exact Ev_round (fun k => by rw [mapmakerref10_index.l1]) (Ev_neg (by omega) hj)
  | succ d ih =>
    intro j e
    have b := two_le (j + 1) (by omega)
    have c := p2 j
    rw [s2] at b
    refine Ev_round (fun k => by rw [mapmakerref10_index.l1]) (Ev_pos (by omega) ?_)
    rw [wrap_in (x := 2 * 2 ^ j) ⟨by omega, by omega⟩, wrap_in (x := (j : Int) + 1 + 1) ⟨by omega, by omega⟩, ← s2]
    exact ih (j + 1) (by omega)
theorem rindex_l0 (m : Nat) : m ≤ 15 → ∀ x y n : Int, Sq m x y → 0 ≤ n → (n + 1) * 4 ^ m ≤ 1073741824 → Ev (fun k => mapmakerref10_index.l0 k (m : Int) n x y) (n * 4 ^ m + hx m x y) := by
  induction m with
  | zero =>
    intro hm x y n hs hn hb
    refine Ev_round (fun k => by rw [mapmakerref10_index.l0]) (Ev_neg (by decide) (Ev_const ?_))
    show some n = some (n * 1 + 0)
    congr 1
    omega
  | succ m ih =>
    intro hm x y n hs hn hb
    obtain ⟨x0, x1, y0, y1⟩ := hs
    rw [s2] at x1 y1
    rw [s4] at hb
    have g0 := p4 m
    have h0 := p2 m
    have h1 := two_le m (by omega)
    have nb := n_bd hn g0 hb
    have e := hx.eq_2 x y m
    refine Ev_round (fun k => by rw [mapmakerref10_index.l0]) (Ev_pos (by omega) ?_)
    refine ref_l1 (m := m) (by omega) ?_ m 0 (by omega)
    have nx : ∀ (q : Int) (x' y' : Int), 0 ≤ q → q ≤ 3 → Sq m x' y' → hx (m + 1) x y = q * 4 ^ m + hx m x' y' → Ev (fun k => mapmakerref10_index.l0 k (wrap64 ((m : Int) + 1 - 1)) (4 * n + q) x' y') (n * 4 ^ (m + 1) + hx (m + 1) x y) := by
      intro q x' y' q0 q3 sq e
      rw [wrap_in (x := (m : Int) + 1 - 1) ⟨by omega, by omega⟩, Int.add_sub_cancel]
      refine Ev_eq ?_ (ih (by omega) x' y' (4 * n + q) sq (by omega) ?_)
      · rw [e, s4 m, Int.add_mul]
        grind
      · have : (4 * n + q + 1) * 4 ^ m ≤ (4 * n + 4) * 4 ^ m := Int.mul_le_mul_of_nonneg_right (by omega) (by omega)
        have e : (4 * n + 4) * 4 ^ m = (n + 1) * (4 * 4 ^ m) := by grind
        omega
    have w0 : wrap64 (4 * n) = 4 * n := wrap_in ⟨by omega, by omega⟩
    have w1 : wrap64 (2 ^ m - 1) = 2 ^ m - 1 := wrap_in ⟨by omega, by omega⟩
    have w2 : wrap64 (2 * 2 ^ m) = 2 * 2 ^ m := wrap_in ⟨by omega, by omega⟩
    have w3 : wrap64 (2 * 2 ^ m - 1) = 2 * 2 ^ m - 1 := wrap_in ⟨by omega, by omega⟩
    have w4 : wrap64 (x - 2 ^ m) = x - 2 ^ m := wrap_in ⟨by omega, by omega⟩
    have w5 : wrap64 (y - 2 ^ m) = y - 2 ^ m := wrap_in ⟨by omega, by omega⟩
    have w6 : wrap64 (2 ^ m - 1 - y) = 2 ^ m - 1 - y := wrap_in ⟨by omega, by omega⟩
    have w7 : wrap64 (2 * 2 ^ m - 1 - x) = 2 * 2 ^ m - 1 - x := wrap_in ⟨by omega, by omega⟩
    have v1 : wrap64 (4 * n + 1) = 4 * n + 1 := wrap_in ⟨by omega, by omega⟩
    have v2 : wrap64 (4 * n + 2) = 4 * n + 2 := wrap_in ⟨by omega, by omega⟩
    have v3 : wrap64 (4 * n + 3) = 4 * n + 3 := wrap_in ⟨by omega, by omega⟩
    rw [w0]
    by_cases c : x < 2 ^ m
    · refine Ev_pos c ?_
      by_cases d : y < 2 ^ m
      · rw [if_pos c, if_pos d] at e
        refine Ev_round (fun k => by rw [mapmakerref10_index.j2]) (Ev_pos (by simpa using d) ?_)
        have := nx 0 y x (by decide) (by decide) ⟨y0, d, x0, c⟩ (by rw [e]; omega)
        rw [Int.add_zero] at this
        exact this
      · rw [if_pos c, if_neg d] at e
        refine Ev_round (fun k => by rw [mapmakerref10_index.j2]) (Ev_neg (by simpa using d) (Ev_pos c ?_))
        rw [v1, w5]
        exact nx 1 _ _ (by decide) (by decide) ⟨x0, c, by omega, by omega⟩ (by rw [e]; omega)
    · refine Ev_neg c (Ev_round (fun k => by rw [mapmakerref10_index.j2]) (Ev_neg (by decide) (Ev_neg c ?_)))
      by_cases d : y ≥ 2 ^ m
      · rw [if_neg c, if_pos d] at e
        refine Ev_pos d ?_
        rw [v2, w4, w5]
        exact nx 2 _ _ (by decide) (by decide) ⟨by omega, by omega, by omega, by omega⟩ e
      · rw [if_neg c, if_neg d] at e
        refine Ev_neg d ?_
        rw [v3, w1, w2, w3, w6, w7]
        exact nx 3 _ _ (by decide) (by decide) ⟨by omega, by omega, by omega, by omega⟩ e
theorem rIndex_ev (x y : Int) : Ev (fun k => mapmakerref10_Index.f k x y) (idx x y) := by
  refine Ev.congr (fun k => by rw [mapmakerref10_Index.f]) ?_
  unfold idx
  by_cases c1 : x < 0
  · exact Ev_pos c1 (Ev_const (by rw [if_neg (show ¬ Vd x y from fun v => by unfold Vd at v; omega)]))
  · refine Ev_neg c1 ?_
    by_cases c2 : y < 0
    · exact Ev_pos c2 (Ev_const (by rw [if_neg (show ¬ Vd x y from fun v => by unfold Vd at v; omega)]))
    · refine Ev_neg c2 ?_
      by_cases c3 : x ≥ 32768
      · exact Ev_pos c3 (Ev_const (by rw [if_neg (show ¬ Vd x y from fun v => by unfold Vd at v; omega)]))
      · refine Ev_neg c3 ?_
        by_cases c4 : y ≥ 32768
        · exact Ev_pos c4 (Ev_const (by rw [if_neg (show ¬ Vd x y from fun v => by unfold Vd at v; omega)]))
        · refine Ev_neg c4 ?_
          rw [if_pos (show Vd x y by unfold Vd; omega)]
          refine Ev.bind (Ev.congr (fun k => by rw [mapmakerref10_index.f]; rfl) (Ev_eq ?_ (rindex_l0 15 (by decide) x y 0 ⟨by omega, by show x < 32768; omega, by omega, by show y < 32768; omega⟩ (by decide) (by decide)))) (Ev.now _)
          rw [Int.zero_mul, Int.zero_add]
/-- The digits of a position, one level up. -/
theorem digits {i g : Int} (hg : 0 < g) : i % (4 * g) / g = i / g % 4 ∧ i % (4 * g) % g = i % g := by
  have m0 := Int.emod_nonneg i (show g ≠ 0 by omega)
  have m1 := Int.emod_lt_of_pos i hg
  have e := Int.mul_ediv_add_emod i g
  have f := Int.mul_ediv_add_emod (i / g) 4
  have f0 := Int.emod_nonneg (i / g) (show (4 : Int) ≠ 0 by decide)
  have f1 := Int.emod_lt_of_pos (i / g) (show (0 : Int) < 4 by decide)
  have k : i % (4 * g) = i / g % 4 * g + i % g := by
    have t : i = (i / g % 4 * g + i % g) + 4 * g * (i / g / 4) := by
      have : i / g % 4 = i / g - 4 * (i / g / 4) := by omega
      rw [this]
      grind
    have b : i / g % 4 * g + i % g < 4 * g := by
      have : i / g % 4 * g ≤ 3 * g := Int.mul_le_mul_of_nonneg_right (by omega) (by omega)
      omega
    have c := Int.mul_nonneg f0 (show 0 ≤ g by omega)
    rw [t, Int.add_mul_emod_self_left, Int.emod_eq_of_lt (by omega) b]
    rw [← t]
  rw [k]
  exact div_add hg m0 m1
end Go.Proofs.Ytffpomipmnlnjaa.Hi
