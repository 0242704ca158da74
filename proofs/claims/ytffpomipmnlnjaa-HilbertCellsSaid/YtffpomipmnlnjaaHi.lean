/- Index and Point, and the reference's: what they compute. -/
import Derived.Test.YtffpomipmnlnjaaHiM
import Derived.Test.YtffpomipmnlnjaaPAllx2
import Derived.Test.YtffpomipmnlnjaaPAllx3
import Derived.Test.YtffpomipmnlnjaaPAllx4
import Derived.Test.YtffpomipmnlnjaaPAllx5
import Derived.Test.YtffpomipmnlnjaaPAllx6
import Derived.Test.YtffpomipmnlnjaaPAllx7
import Derived.Test.YtffpomipmnlnjaaPAllx10
import Derived.Test.YtffpomipmnlnjaaPAllx8
namespace Go.Proofs.Ytffpomipmnlnjaa.Hi
open Go.RowKit Go.Proofs.Ytffpomipmnlnjaa.PAll Go.Proofs.YtffpomipmnlnjaaW.PrintWords Go.Proofs.YtffpomipmnlnjaaW.PrintLast Go.Proofs.YtffpomipmnlnjaaW.PrintMore Go.Proofs.Ytffpomipmnlnjaa.Bas
set_option linter.unusedVariables false
set_option linter.unusedSimpArgs false

theorem lives_ev : Ev (fun k => mapmakerlaw10_lives.f k) true := Ev.of mapmakerlaw10_lives.mono (k := 200) (by decide +kernel)
theorem fin_ev : Ev (fun k => (mapmakerlaw10_lives.f k).bind fun t => some t) true := Ev.bind lives_ev (Ev.now _)
theorem two_le (m : Nat) (hm : m ≤ 15) : (2 : Int) ^ m ≤ 32768 := by
  have : (2 : Int) ^ m ≤ 2 ^ 15 := by exact_mod_cast Nat.pow_le_pow_right (show 0 < 2 by decide) hm
  exact this
theorem quarter_eq {x y h : Int} (hh : 0 < h) (hb : h ≤ 32768) (x0 : 0 ≤ x) (x1 : x < 2 * h) (y0 : 0 ≤ y) (y1 : y < 2 * h) :
    hilbert_quarter.f (wrap64 (Int.tdiv x h)) (wrap64 (Int.tdiv y h)) = some (if x < h then (if y < h then 0 else 1) else (if y ≥ h then 2 else 3)) := by
  have q : ∀ z : Int, 0 ≤ z → z < 2 * h → wrap64 (Int.tdiv z h) = if z < h then 0 else 1 := by
    intro z z0 z1
    rw [tdiv_nn z0]
    by_cases c : z < h
    · rw [if_pos c, Int.ediv_eq_zero_of_lt z0 c]
      decide +kernel
    · have e : z / h = 1 := by
        have : z = (z - h) + 1 * h := by omega
        rw [this, Int.add_mul_ediv_right _ _ (by omega), Int.ediv_eq_zero_of_lt (by omega) (by omega)]
        rfl
      rw [if_neg c, e]
      decide +kernel
  rw [q x x0 x1, q y y0 y1]
  unfold hilbert_quarter.f
  by_cases c : x < h <;> by_cases d : y < h
  · simp [c, d]
  · simp [c, d]
  · simp [c, d, show ¬ y ≥ h by omega]
  · simp [c, d, show y ≥ h by omega]
theorem n_bd {n g : Int} (hn : 0 ≤ n) (hg : 0 < g) (h : (n + 1) * (4 * g) ≤ 1073741824) : n + 1 ≤ 268435456 := by
  have := Int.mul_le_mul_of_nonneg_left (show (4 : Int) ≤ 4 * g by omega) (show 0 ≤ n + 1 by omega)
  omega
theorem Index_l0 (m : Nat) : m ≤ 14 → ∀ x y n : Int, Sq (m + 1) x y → 0 ≤ n → (n + 1) * 4 ^ (m + 1) ≤ 1073741824 → Ev (fun k => hilbert_Index.l0 k x y n (2 ^ m)) (n * 4 ^ (m + 1) + hx (m + 1) x y) := by
  induction m with
  | zero =>
    intro hm x y n hs hn hb
    obtain ⟨x0, x1, y0, y1⟩ := hs
    rw [s2] at x1 y1
    rw [s4] at hb
    have nb := n_bd hn (p4 0) hb
    have nx : ∀ (q : Int) (x' y' : Int), 0 ≤ q → q ≤ 3 → hx 1 x y = q → Ev (fun k => if wrap64 (Int.tdiv (2 ^ 0) 2) > 0 then hilbert_Index.l0 k x' y' (wrap64 (wrap64 (4 * n) + q)) (wrap64 (Int.tdiv (2 ^ 0) 2)) else some (wrap64 (wrap64 (4 * n) + q))) (n * 4 ^ (0 + 1) + hx 1 x y) := by
      intro q x' y' q0 q3 e
      refine Ev_neg (by decide +kernel) (Ev_const ?_)
      rw [e, wrap_in (x := 4 * n) ⟨by omega, by omega⟩, wrap_in ⟨by omega, by omega⟩]
      congr 1
      show 4 * n + q = n * 4 + q
      omega
    refine Ev_round (fun k => by rw [hilbert_Index.l0]) (Ev_neg (by decide) (Ev.bind (Ev_const (quarter_eq (p2 0) (by decide) x0 x1 y0 y1)) ?_))
    have e := hx.eq_2 x y 0
    by_cases c : x < 2 ^ 0 <;> by_cases d : y < 2 ^ 0
    · rw [if_pos c, if_pos d] at *
      exact Ev_pos rfl (nx 0 _ _ (by decide) (by decide) (e.trans rfl))
    · rw [if_pos c, if_neg d] at *
      exact Ev_neg (by decide) (Ev_pos rfl (nx 1 _ _ (by decide) (by decide) (e.trans rfl)))
    · rw [if_neg c, if_neg (show ¬ y ≥ 2 ^ 0 by omega)] at *
      exact Ev_neg (by decide) (Ev_neg (by decide) (Ev_neg (by decide) (nx 3 _ _ (by decide) (by decide) (e.trans rfl))))
    · rw [if_neg c, if_pos (show y ≥ 2 ^ 0 by omega)] at *
      exact Ev_neg (by decide) (Ev_neg (by decide) (Ev_pos rfl (nx 2 _ _ (by decide) (by decide) (e.trans rfl))))
  | succ m ih =>
    intro hm x y n hs hn hb
    obtain ⟨x0, x1, y0, y1⟩ := hs
    rw [s2] at x1 y1
    rw [s4] at hb
    have g0 := p4 (m + 1)
    have h0 := p2 (m + 1)
    have h1 := two_le (m + 1) (by omega)
    have nb := n_bd hn g0 hb
    have half : wrap64 (Int.tdiv (2 ^ (m + 1)) 2) = 2 ^ m := by
      have := p2 m
      have := two_le m (by omega)
      rw [tdiv_nn (by omega), s2, Int.mul_ediv_cancel_left _ (by decide), wrap_in ⟨by omega, by omega⟩]
    have nx : ∀ (q : Int) (x' y' : Int), 0 ≤ q → q ≤ 3 → Sq (m + 1) x' y' → hx (m + 1 + 1) x y = q * 4 ^ (m + 1) + hx (m + 1) x' y' → Ev (fun k => if wrap64 (Int.tdiv (2 ^ (m + 1)) 2) > 0 then hilbert_Index.l0 k x' y' (wrap64 (wrap64 (4 * n) + q)) (wrap64 (Int.tdiv (2 ^ (m + 1)) 2)) else some (wrap64 (wrap64 (4 * n) + q))) (n * 4 ^ (m + 1 + 1) + hx (m + 1 + 1) x y) := by
      intro q x' y' q0 q3 sq e
      rw [half, wrap_in (x := 4 * n) ⟨by omega, by omega⟩, wrap_in ⟨by omega, by omega⟩]
      refine Ev_pos (p2 m) (Ev_eq ?_ (ih (by omega) x' y' (4 * n + q) sq (by omega) ?_))
      · rw [e, s4 (m + 1), Int.add_mul]
        grind
      · have : (4 * n + q + 1) * 4 ^ (m + 1) ≤ (4 * n + 4) * 4 ^ (m + 1) := Int.mul_le_mul_of_nonneg_right (by omega) (by omega)
        have e : (4 * n + 4) * 4 ^ (m + 1) = (n + 1) * (4 * 4 ^ (m + 1)) := by grind
        omega
    refine Ev_round (fun k => by rw [hilbert_Index.l0]) (Ev_neg (by omega) (Ev.bind (Ev_const (quarter_eq h0 h1 x0 x1 y0 y1)) ?_))
    have e := hx.eq_2 x y (m + 1)
    have w1 : wrap64 (2 ^ (m + 1) - 1) = 2 ^ (m + 1) - 1 := wrap_in ⟨by omega, by omega⟩
    have w2 : wrap64 (2 * 2 ^ (m + 1)) = 2 * 2 ^ (m + 1) := wrap_in ⟨by omega, by omega⟩
    have w3 : wrap64 (2 * 2 ^ (m + 1) - 1) = 2 * 2 ^ (m + 1) - 1 := wrap_in ⟨by omega, by omega⟩
    have w4 : wrap64 (x - 2 ^ (m + 1)) = x - 2 ^ (m + 1) := wrap_in ⟨by omega, by omega⟩
    have w5 : wrap64 (y - 2 ^ (m + 1)) = y - 2 ^ (m + 1) := wrap_in ⟨by omega, by omega⟩
    have w6 : wrap64 (2 ^ (m + 1) - 1 - y) = 2 ^ (m + 1) - 1 - y := wrap_in ⟨by omega, by omega⟩
    have w7 : wrap64 (2 * 2 ^ (m + 1) - 1 - x) = 2 * 2 ^ (m + 1) - 1 - x := wrap_in ⟨by omega, by omega⟩
    rw [w1, w2, w3, w4, w5, w6, w7]
    by_cases c : x < 2 ^ (m + 1) <;> by_cases d : y < 2 ^ (m + 1)
    · rw [if_pos c, if_pos d] at *
      exact Ev_pos rfl (nx 0 _ _ (by decide) (by decide) ⟨y0, d, x0, c⟩ (by rw [e]; omega))
    · rw [if_pos c, if_neg d] at *
      exact Ev_neg (by decide) (Ev_pos rfl (nx 1 _ _ (by decide) (by decide) ⟨x0, c, by omega, by omega⟩ (by rw [e]; omega)))
    · rw [if_neg c, if_neg (show ¬ y ≥ 2 ^ (m + 1) by omega)] at *
      exact Ev_neg (by decide) (Ev_neg (by decide) (Ev_neg (by decide) (nx 3 _ _ (by decide) (by decide) ⟨by omega, by omega, by omega, by omega⟩ (by rw [e]))))
    · rw [if_neg c, if_pos (show y ≥ 2 ^ (m + 1) by omega)] at *
      exact Ev_neg (by decide) (Ev_neg (by decide) (Ev_pos rfl (nx 2 _ _ (by decide) (by decide) ⟨by omega, by omega, by omega, by omega⟩ (by rw [e]))))
/-- A grid point. -/
def Vd (x y : Int) : Prop := 0 ≤ x ∧ x < 32768 ∧ 0 ≤ y ∧ y < 32768
instance (x y : Int) : Decidable (Vd x y) := by unfold Vd; infer_instance
theorem sd {b : Bool} {p : Prop} [Decidable p] (h : b = true ↔ p) : some b = some (decide p) := by
  congr 1
  rw [Bool.eq_iff_iff, h, decide_eq_true_eq]
theorem Valid_eq (x y : Int) : grid_Valid.f x y = some (decide (Vd x y)) := by
  unfold grid_Valid.f Vd
  repeat' split
  all_goals (refine sd ?_; simp only [decide_eq_true_eq, Bool.false_eq_true, true_iff, false_iff]; omega)
def idx (x y : Int) : Int := if Vd x y then hx 15 x y else -1
theorem Index_ev (x y : Int) : Ev (fun k => hilbert_Index.f k x y) (idx x y) := by
  refine Ev.congr (fun k => by rw [hilbert_Index.f]) (Ev.bind (Ev_const (Valid_eq x y)) ?_)
  unfold idx
  by_cases v : Vd x y
  · rw [if_pos v]
    refine Ev_pos (by simpa using v) (Ev_eq ?_ (Index_l0 14 (by decide) x y 0 v (by decide) (by decide)))
    rw [Int.zero_mul, Int.zero_add]
  · rw [if_neg v]
    exact Ev_neg (by simpa using v) (Ev.now _)
end Go.Proofs.Ytffpomipmnlnjaa.Hi
