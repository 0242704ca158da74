/- The curve, plainly: a point's position (hx) and a position's point (hp), level by level. -/
import Derived.Test.YtffpomipmnlnjaaBas
namespace Go.Proofs.Ytffpomipmnlnjaa.Hi
open Go.Proofs.Ytffpomipmnlnjaa.Bas
set_option linter.unusedVariables false
set_option linter.unusedSimpArgs false

def hx : Nat → Int → Int → Int
  | 0, _, _ => 0
  | k + 1, x, y =>
    if x < 2 ^ k then (if y < 2 ^ k then hx k y x else 4 ^ k + hx k x (y - 2 ^ k))
    else (if y ≥ 2 ^ k then 2 * 4 ^ k + hx k (x - 2 ^ k) (y - 2 ^ k) else 3 * 4 ^ k + hx k (2 ^ k - 1 - y) (2 * 2 ^ k - 1 - x))
def hp : Nat → Int → Int × Int
  | 0, _ => (0, 0)
  | k + 1, i =>
    if i / 4 ^ k = 0 then ((hp k (i % 4 ^ k)).2, (hp k (i % 4 ^ k)).1)
    else (if i / 4 ^ k = 1 then ((hp k (i % 4 ^ k)).1, (hp k (i % 4 ^ k)).2 + 2 ^ k)
    else (if i / 4 ^ k = 2 then ((hp k (i % 4 ^ k)).1 + 2 ^ k, (hp k (i % 4 ^ k)).2 + 2 ^ k)
    else (2 * 2 ^ k - 1 - (hp k (i % 4 ^ k)).2, 2 ^ k - 1 - (hp k (i % 4 ^ k)).1)))
def Sq (k : Nat) (x y : Int) : Prop := 0 ≤ x ∧ x < 2 ^ k ∧ 0 ≤ y ∧ y < 2 ^ k
theorem p2 (k : Nat) : (0 : Int) < 2 ^ k := Int.pow_pos (by decide)
theorem p4 (k : Nat) : (0 : Int) < 4 ^ k := Int.pow_pos (by decide)
theorem s2 (k : Nat) : (2 : Int) ^ (k + 1) = 2 * 2 ^ k := by rw [Int.pow_succ, Int.mul_comm]
theorem s4 (k : Nat) : (4 : Int) ^ (k + 1) = 4 * 4 ^ k := by rw [Int.pow_succ, Int.mul_comm]
theorem hx_bd (k : Nat) : ∀ x y, Sq k x y → 0 ≤ hx k x y ∧ hx k x y < 4 ^ k := by
  induction k with
  | zero => intro x y _; exact ⟨Int.le_refl 0, show (0 : Int) < 1 by decide⟩
  | succ k ih =>
    intro x y h
    have a := p2 k
    have b := p4 k
    unfold Sq at *
    rw [s2] at h
    rw [s4, hx]
    split
    · split
      · have := ih y x (by omega)
        omega
      · have := ih x (y - 2 ^ k) (by omega)
        omega
    · split
      · have := ih (x - 2 ^ k) (y - 2 ^ k) (by omega)
        omega
      · have := ih (2 ^ k - 1 - y) (2 * 2 ^ k - 1 - x) (by omega)
        omega
theorem hp_bd (k : Nat) : ∀ i, Sq k (hp k i).1 (hp k i).2 := by
  induction k with
  | zero => intro i; unfold Sq hp; decide
  | succ k ih =>
    intro i
    have a := p2 k
    have h := ih (i % 4 ^ k)
    unfold Sq at *
    rw [s2, hp]
    generalize hp k (i % 4 ^ k) = P at *
    repeat' split
    all_goals (simp only []; omega)
theorem div_add {g q r : Int} (hg : 0 < g) (h0 : 0 ≤ r) (h1 : r < g) : (q * g + r) / g = q ∧ (q * g + r) % g = r := by
  constructor
  · rw [Int.add_comm, Int.add_mul_ediv_right _ _ (by omega), Int.ediv_eq_zero_of_lt h0 h1]
    omega
  · rw [Int.add_comm, Int.add_mul_emod_self_right, Int.emod_eq_of_lt h0 h1]
theorem hp_hx (k : Nat) : ∀ x y, Sq k x y → hp k (hx k x y) = (x, y) := by
  induction k with
  | zero =>
    intro x y h
    unfold Sq at h
    rw [hp]
    have : (2 : Int) ^ 0 = 1 := rfl
    rw [this] at h
    have e1 : x = 0 := by omega
    have e2 : y = 0 := by omega
    rw [e1, e2]
  | succ k ih =>
    intro x y h
    have a := p2 k
    have b := p4 k
    unfold Sq at *
    rw [s2] at h
    rw [hx]
    split
    · split
      · have i := ih y x (by omega)
        have t := hx_bd k y x (by unfold Sq; omega)
        obtain ⟨d, m⟩ := div_add (q := 0) b t.1 t.2
        rw [Int.zero_mul, Int.zero_add] at d m
        rw [hp, if_pos d, m, i]
      · have i := ih x (y - 2 ^ k) (by omega)
        have t := hx_bd k x (y - 2 ^ k) (by unfold Sq; omega)
        obtain ⟨d, m⟩ := div_add (q := 1) b t.1 t.2
        rw [Int.one_mul] at d m
        rw [hp, if_neg (by omega), if_pos d, m, i]
        congr 1
        show y - 2 ^ k + 2 ^ k = y
        omega
    · split
      · have i := ih (x - 2 ^ k) (y - 2 ^ k) (by omega)
        have t := hx_bd k (x - 2 ^ k) (y - 2 ^ k) (by unfold Sq; omega)
        obtain ⟨d, m⟩ := div_add (q := 2) b t.1 t.2
        rw [hp, if_neg (by omega), if_neg (by omega), if_pos d, m, i]
        show (x - 2 ^ k + 2 ^ k, y - 2 ^ k + 2 ^ k) = (x, y)
        rw [Int.sub_add_cancel, Int.sub_add_cancel]
      · have i := ih (2 ^ k - 1 - y) (2 * 2 ^ k - 1 - x) (by omega)
        have t := hx_bd k (2 ^ k - 1 - y) (2 * 2 ^ k - 1 - x) (by unfold Sq; omega)
        obtain ⟨d, m⟩ := div_add (q := 3) b t.1 t.2
        rw [hp, if_neg (by omega), if_neg (by omega), if_neg (by omega), m, i]
        show (2 * 2 ^ k - 1 - (2 * 2 ^ k - 1 - x), 2 ^ k - 1 - (2 ^ k - 1 - y)) = (x, y)
        congr 1 <;> omega
theorem hx_hp (k : Nat) : ∀ i, 0 ≤ i → i < 4 ^ k → hx k (hp k i).1 (hp k i).2 = i := by
  induction k with
  | zero =>
    intro i h0 h1
    have : (4 : Int) ^ 0 = 1 := rfl
    rw [this] at h1
    rw [hx]
    omega
  | succ k ih =>
    intro i h0 h1
    have a := p2 k
    have b := p4 k
    rw [s4] at h1
    have m0 := Int.emod_nonneg i (show (4 : Int) ^ k ≠ 0 by omega)
    have m1 := Int.emod_lt_of_pos i b
    have d0 := Int.ediv_nonneg h0 (show (0 : Int) ≤ 4 ^ k by omega)
    have d1 : i / 4 ^ k < 4 := Int.ediv_lt_of_lt_mul b (by omega)
    have e := Int.mul_ediv_add_emod i (4 ^ k)
    have r := ih (i % 4 ^ k) m0 m1
    have s := hp_bd k (i % 4 ^ k)
    unfold Sq at s
    rw [hp]
    generalize hp k (i % 4 ^ k) = P at *
    by_cases c0 : i / 4 ^ k = 0
    · rw [if_pos c0, hx, if_pos s.2.2.2, if_pos s.2.1]
      rw [c0] at e
      show hx k P.1 P.2 = i
      omega
    · rw [if_neg c0]
      by_cases c1 : i / 4 ^ k = 1
      · rw [if_pos c1, hx, if_pos s.2.1, if_neg (by show ¬ P.2 + 2 ^ k < 2 ^ k; omega)]
        rw [c1] at e
        show 4 ^ k + hx k P.1 (P.2 + 2 ^ k - 2 ^ k) = i
        rw [Int.add_sub_cancel]
        omega
      · rw [if_neg c1]
        by_cases c2 : i / 4 ^ k = 2
        · rw [if_pos c2, hx, if_neg (by show ¬ P.1 + 2 ^ k < 2 ^ k; omega), if_pos (by show P.2 + 2 ^ k ≥ 2 ^ k; omega)]
          rw [c2] at e
          show 2 * 4 ^ k + hx k (P.1 + 2 ^ k - 2 ^ k) (P.2 + 2 ^ k - 2 ^ k) = i
          rw [Int.add_sub_cancel, Int.add_sub_cancel]
          omega
        · have c3 : i / 4 ^ k = 3 := by omega
          rw [if_neg c2, hx, if_neg (by show ¬ 2 * 2 ^ k - 1 - P.2 < 2 ^ k; omega), if_neg (by show ¬ 2 ^ k - 1 - P.1 ≥ 2 ^ k; omega)]
          rw [c3] at e
          show 3 * 4 ^ k + hx k (2 ^ k - 1 - (2 ^ k - 1 - P.1)) (2 * 2 ^ k - 1 - (2 * 2 ^ k - 1 - P.2)) = i
          rw [Int.sub_sub_self, Int.sub_sub_self]
          omega
end Go.Proofs.Ytffpomipmnlnjaa.Hi
