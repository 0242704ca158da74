/- Sqrt, the program's and the reference's: the integer square root. -/
import Derived.Test.YtbjgcfbmifpepaaBas
import Derived.Test.YtbjgcfbmifpepaaPAllx5
import Derived.Test.YtbjgcfbmifpepaaPAllx19
namespace Go.Proofs.Ytbjgcfbmifpepaa.Nm
open Go.RowKit Go.Proofs.Ytbjgcfbmifpepaa.PAll Go.Proofs.YtbjgcfbmifpepaaW.PrintWords Go.Proofs.YtbjgcfbmifpepaaW.PrintLast Go.Proofs.YtbjgcfbmifpepaaW.PrintMore Go.Proofs.Ytbjgcfbmifpepaa.Bas
set_option linter.unusedVariables false
set_option linter.unusedSimpArgs false

theorem mul_mono {a b c d : Int} (h1 : 0 ≤ a) (h2 : a ≤ b) (h3 : 0 ≤ c) (h4 : c ≤ d) : a * c ≤ b * d := Int.mul_le_mul h2 h4 h3 (by omega)
/-- r is the root of n. -/
def Rt (n r : Int) : Prop := if n ≤ 0 then r = 0 else 0 ≤ r ∧ r * r ≤ n ∧ n < (r + 1) * (r + 1)
theorem rt_one {n r s : Int} (h : Rt n r) (k : Rt n s) : r = s := by
  unfold Rt at h k
  split at h
  · rename_i c
    rw [if_pos c] at k
    omega
  · rename_i c
    rw [if_neg c] at k
    obtain ⟨h1, h2, h3⟩ := h
    obtain ⟨k1, k2, k3⟩ := k
    by_cases a : r < s
    · have := mul_mono (show 0 ≤ r + 1 by omega) (show r + 1 ≤ s by omega) (show 0 ≤ r + 1 by omega) (show r + 1 ≤ s by omega)
      omega
    · by_cases b : s < r
      · have := mul_mono (show 0 ≤ s + 1 by omega) (show s + 1 ≤ r by omega) (show 0 ≤ s + 1 by omega) (show s + 1 ≤ r by omega)
        omega
      · omega
theorem Sqrt_l0 (n : Int) (hn : IsI n) (d : Nat) : ∀ lo hi : Int, 0 ≤ lo → lo ≤ hi → hi ≤ 3037000499 → hi - lo ≤ d → (lo = 0 ∨ lo * lo ≤ n) → n < (hi + 1) * (hi + 1) →
    ∃ r, Rt n r ∧ Ev (fun k => num_Sqrt.l0 k n lo hi) r := by
  induction d with
  | zero =>
    intro lo hi h0 h1 h2 hd hl hh
    obtain rfl : lo = hi := by omega
    refine ⟨lo, ?_, Ev_round (fun k => by rw [num_Sqrt.l0]) (Ev_neg (by omega) (Ev.now _))⟩
    unfold Rt
    split
    · rcases hl with h | h
      · exact h
      · by_cases z : lo = 0
        · exact z
        · have := mul_mono (show (0 : Int) ≤ 1 by omega) (show 1 ≤ lo by omega) (show (0 : Int) ≤ 1 by omega) (show 1 ≤ lo by omega)
          omega
    · refine ⟨h0, ?_, hh⟩
      rcases hl with h | h
      · subst h
        simp
        omega
      · exact h
  | succ d ih =>
    intro lo hi h0 h1 h2 hd hl hh
    by_cases c : lo < hi
    · have w1 : wrap64 (lo + hi) = lo + hi := wrap_in ⟨by omega, by omega⟩
      have w2 : wrap64 (lo + hi + 1) = lo + hi + 1 := wrap_in ⟨by omega, by omega⟩
      have w3 : wrap64 (Int.tdiv (lo + hi + 1) 2) = (lo + hi + 1) / 2 := by rw [tdiv_nn (by omega)]; exact wrap_in ⟨by omega, by omega⟩
      have hm1 : lo + 1 ≤ (lo + hi + 1) / 2 := by omega
      have hm2 : (lo + hi + 1) / 2 ≤ hi := by omega
      generalize hm : (lo + hi + 1) / 2 = m at *
      have hb : m * m ≤ 3037000499 * 3037000499 := mul_mono (by omega) (by omega) (by omega) (by omega)
      have hb0 : 0 ≤ m * m := Int.mul_nonneg (by omega) (by omega)
      have w4 : wrap64 (m * m) = m * m := wrap_in ⟨by omega, by omega⟩
      have w5 : wrap64 (m - 1) = m - 1 := wrap_in ⟨by omega, by omega⟩
      have key : ∃ r, Rt n r ∧ Ev (fun k => if m * m > n then num_Sqrt.l0 k n lo (m - 1) else num_Sqrt.l0 k n m hi) r := by
        by_cases c2 : m * m > n
        · obtain ⟨r, hr, he⟩ := ih lo (m - 1) h0 (by omega) (by omega) (by omega) hl (by rw [show m - 1 + 1 = m by omega]; exact c2)
          exact ⟨r, hr, Ev_pos c2 he⟩
        · obtain ⟨r, hr, he⟩ := ih m hi (by omega) (by omega) h2 (by omega) (.inr (by omega)) hh
          exact ⟨r, hr, Ev_neg c2 he⟩
      obtain ⟨r, hr, he⟩ := key
      refine ⟨r, hr, Ev_round (fun k => by rw [num_Sqrt.l0]) (Ev_pos c ?_)⟩
      rw [w1, w2, w3, w4, w5]
      exact he
    · exact ih lo hi h0 h1 h2 (by omega) hl hh
theorem Sqrt_ev {n : Int} (hn : IsI n) : ∃ r, Rt n r ∧ Ev (fun k => num_Sqrt.f k n) r := by
  obtain ⟨r, hr, he⟩ := Sqrt_l0 n hn 3037000499 0 3037000499 (by omega) (by omega) (by omega) (by omega) (.inl rfl) (by have := hn.2; omega)
  exact ⟨r, hr, Ev.congr (fun k => by rw [num_Sqrt.f]) he⟩
theorem rSqrt_l0 (n : Int) (hn : IsI n) (hp : 0 < n) (d : Nat) : ∀ lo hi i : Int, 1 ≤ lo → lo < hi → hi ≤ 3037000500 → 0 ≤ i → i + d ≤ 32 → hi - lo ≤ 2 ^ d → lo * lo ≤ n → n < hi * hi →
    ∃ r, Rt n r ∧ Ev (fun k => mapmakerref01_Sqrt.l0 k n lo hi i) r := by
  induction d with
  | zero =>
    intro lo hi i h0 h1 h2 hi0 hi1 hd hl hh
    obtain rfl : hi = lo + 1 := by simp at hd; omega
    have w1 : wrap64 (lo + 1 - lo) = 1 := wrap_in ⟨by omega, by omega⟩ |>.trans (by omega)
    refine ⟨lo, ?_, Ev_round (fun k => by rw [mapmakerref01_Sqrt.l0]) (Ev_pos (by omega) (Ev_round (fun k => by rw [mapmakerref01_Sqrt.j1]) (Ev_neg (by rw [w1]; decide) (Ev.now _))))⟩
    unfold Rt
    rw [if_neg (by omega)]
    exact ⟨by omega, hl, hh⟩
  | succ d ih =>
    intro lo hi i h0 h1 h2 hi0 hi1 hd hl hh
    have hp2 : (2 : Int) ^ (d + 1) = 2 ^ d * 2 := Int.pow_succ 2 d
    have hpp : (1 : Int) ≤ 2 ^ d := by
      have : (0 : Int) < 2 ^ d := Int.pow_pos (by decide)
      omega
    by_cases c : hi - lo > 1
    · have w1 : wrap64 (lo + hi) = lo + hi := wrap_in ⟨by omega, by omega⟩
      have w0 : wrap64 (hi - lo) = hi - lo := wrap_in ⟨by omega, by omega⟩
      have w3 : wrap64 (Int.tdiv (lo + hi) 2) = (lo + hi) / 2 := by rw [tdiv_nn (by omega)]; exact wrap_in ⟨by omega, by omega⟩
      have w6 : wrap64 (i + 1) = i + 1 := wrap_in ⟨by omega, by omega⟩
      have hm1 : lo + 1 ≤ (lo + hi) / 2 := by omega
      have hm2 : (lo + hi) / 2 + 1 ≤ hi := by omega
      have g1 : hi - (lo + hi) / 2 ≤ 2 ^ d := by omega
      have g2 : (lo + hi) / 2 - lo ≤ 2 ^ d := by omega
      generalize hm : (lo + hi) / 2 = m at *
      have q0 : 0 ≤ n / m := Int.ediv_nonneg (by omega) (by omega)
      have q1 : n / m ≤ n := Int.ediv_le_self m (by omega)
      have w4 : wrap64 (Int.tdiv n m) = n / m := by rw [tdiv_nn (by omega)]; exact wrap_in ⟨by omega, by have := hn.2; omega⟩
      have le : m ≤ n / m ↔ m * m ≤ n := Int.le_ediv_iff_mul_le (by omega)
      have key : ∃ r, Rt n r ∧ Ev (fun k => if m ≤ n / m then mapmakerref01_Sqrt.l0 k n m hi (i + 1) else mapmakerref01_Sqrt.l0 k n lo m (i + 1)) r := by
        by_cases c2 : m ≤ n / m
        · obtain ⟨r, hr, he⟩ := ih m hi (i + 1) (by omega) (by omega) h2 (by omega) (by omega) g1 (le.1 c2) hh
          exact ⟨r, hr, Ev_pos c2 he⟩
        · obtain ⟨r, hr, he⟩ := ih lo m (i + 1) h0 (by omega) (by omega) (by omega) (by omega) g2 hl (by
            have : ¬ m * m ≤ n := fun h => c2 (le.2 h)
            omega)
          exact ⟨r, hr, Ev_neg c2 he⟩
      obtain ⟨r, hr, he⟩ := key
      refine ⟨r, hr, Ev_round (fun k => by rw [mapmakerref01_Sqrt.l0]) (Ev_pos (by omega) (Ev_round (fun k => by rw [mapmakerref01_Sqrt.j1]) (Ev_pos (by rw [w0]; simpa using c) ?_)))⟩
      rw [w1, w3, w4, w6]
      exact Ev_neg (by omega) he
    · exact ih lo hi i h0 h1 h2 hi0 (by omega) (by omega) hl hh
theorem rSqrt_ev {n : Int} (hn : IsI n) : ∃ r, Rt n r ∧ Ev (fun k => mapmakerref01_Sqrt.f k n) r := by
  by_cases c : n ≤ 0
  · exact ⟨0, by unfold Rt; rw [if_pos c], Ev.congr (fun k => by rw [mapmakerref01_Sqrt.f]) (Ev_pos c (Ev.now _))⟩
  · obtain ⟨r, hr, he⟩ := rSqrt_l0 n hn (by omega) 32 1 3037000500 0 (by omega) (by omega) (by omega) (by omega) (by omega) (by decide) (by omega) (by have := hn.2; omega)
    exact ⟨r, hr, Ev.congr (fun k => by rw [mapmakerref01_Sqrt.f]) (Ev_neg c he)⟩
theorem rt_sq {k : Int} (h : 0 ≤ k) : Rt (k * k) k := by
  unfold Rt
  by_cases z : k = 0
  · subst z
    simp
  · have h1 := mul_mono (show (0 : Int) ≤ 1 by omega) (show 1 ≤ k by omega) (show (0 : Int) ≤ 1 by omega) (show 1 ≤ k by omega)
    rw [if_neg (by omega)]
    refine ⟨h, Int.le_refl _, ?_⟩
    have : (k + 1) * (k + 1) = k * k + 2 * k + 1 := by grind
    omega
end Go.Proofs.Ytbjgcfbmifpepaa.Nm
