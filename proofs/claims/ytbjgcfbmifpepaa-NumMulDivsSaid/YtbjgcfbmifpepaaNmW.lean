/- The reference's MulDiv: a long division of 128 steps. -/
import Derived.Test.YtbjgcfbmifpepaaNmM
import Derived.Test.YtbjgcfbmifpepaaNmQ
import Derived.Test.YtbjgcfbmifpepaaPAllx24
namespace Go.Proofs.Ytbjgcfbmifpepaa.Nm
open Go.RowKit Go.Proofs.Ytbjgcfbmifpepaa.PAll Go.Proofs.YtbjgcfbmifpepaaW.PrintWords Go.Proofs.YtbjgcfbmifpepaaW.PrintLast Go.Proofs.YtbjgcfbmifpepaaW.PrintMore Go.Proofs.Ytbjgcfbmifpepaa.Bas
set_option linter.unusedVariables false
set_option linter.unusedSimpArgs false

theorem b_neg {a : Bool} (h : a = true) : (¬ a = true) = False := by simp [h]
/-- The end of the loop. -/
theorem rtail {c P hi lo i : Int} {neg : Bool} (hc : 0 < c) (hc2 : c < 9223372036854775808) (hP : 0 ≤ P) (hP2 : P < 170141183460469231731687303715884105728) (hi' : ¬ i < 128) :
    Ev (fun k => mapmakerref01_MulDiv.l0 k hi lo neg c (P % c) (P / c / 18446744073709551616) (P / c % 18446744073709551616) i)
      (if neg = false then (if P / c < 9223372036854775808 then (P / c, true) else (0, false))
       else if P % c = 0 then (if P / c ≤ 9223372036854775808 then (-(P / c), true) else (0, false))
       else (if P / c < 9223372036854775808 then (-(P / c) - 1, true) else (0, false))) := by
  have m0 := Int.emod_nonneg P (show c ≠ 0 by omega)
  have q0 := Int.ediv_nonneg hP (show 0 ≤ c by omega)
  have q1 : P / c ≤ P := Int.ediv_le_self _ hP
  refine Ev_round (fun k => by rw [mapmakerref01_MulDiv.l0]) (Ev_neg hi' (Ev_const ?_))
  generalize P / c = Q at *
  generalize P % c = R at *
  cases neg
  · simp only [reduceCtorEq, if_true, if_false, Bool.false_eq_true]
    repeat' split
    all_goals first
      | rfl
      | (exfalso; omega)
      | (congr 2; unfold wrap64; omega)
  · simp only [reduceCtorEq, if_true, if_false, IntKind.wrap_u64]
    repeat' split
    all_goals first
      | rfl
      | (exfalso; omega)
      | (congr 2; unfold wrap64; omega)
theorem rloop {c P : Int} {neg : Bool} {R : Int × Bool} (hc : 0 < c) (hc2 : c < 9223372036854775808) (hP : 0 ≤ P) (hP2 : P < 170141183460469231731687303715884105728)
    (ht : ∀ hi lo i : Int, ¬ i < 128 → Ev (fun k => mapmakerref01_MulDiv.l0 k hi lo neg c (P % c) (P / c / 18446744073709551616) (P / c % 18446744073709551616) i) R) (n : Nat) :
    ∀ hi lo r qh ql T Q : Int, n ≤ 128 → 0 ≤ hi → hi < 18446744073709551616 → 0 ≤ lo → lo < 18446744073709551616 → hi * 18446744073709551616 + lo = T * 2 ^ (128 - n) → 0 ≤ T → T < 2 ^ n → 0 ≤ r → r < c → 0 ≤ Q →
      qh = Q / 18446744073709551616 → ql = Q % 18446744073709551616 → P = (Q * c + r) * 2 ^ n + T → Ev (fun k => mapmakerref01_MulDiv.l0 k hi lo neg c r qh ql (128 - (n : Int))) R := by
  induction n with
  | zero =>
    intro hi lo r qh ql T Q _ _ _ _ _ hm hT hT2 hr hr2 hQ e1 e2 hPq
    have t0 : T = 0 := by
      have : T < 1 := by simpa using hT2
      omega
    have hPq' : P = r + c * Q := by
      rw [hPq, t0, Int.mul_comm c]
      simp
      omega
    have d1 : P / c = Q := by
      rw [hPq', Int.add_mul_ediv_left _ _ (by omega), Int.ediv_eq_zero_of_lt hr hr2]
      omega
    have d2 : P % c = r := by
      rw [hPq', Int.add_mul_emod_self_left, Int.emod_eq_of_lt hr hr2]
    have := ht hi lo (128 - ((0 : Nat) : Int)) (by simp)
    rw [d1, d2, ← e1, ← e2] at this
    exact this
  | succ n ih =>
    intro hi lo r qh ql T Q hn h1 h2 h3 h4 hm hT hT2 hr hr2 hQ e1 e2 hPq
    have pn : (0 : Int) < 2 ^ n := Int.pow_pos (by decide)
    have pw : (0 : Int) < 2 ^ (128 - (n + 1)) := Int.pow_pos (by decide)
    have ew : (2 : Int) ^ (128 - n) = 2 * 2 ^ (128 - (n + 1)) := by
      have : 128 - n = (128 - (n + 1)) + 1 := by omega
      rw [this, Int.pow_succ, Int.mul_comm]
    have en : (2 : Int) ^ (n + 1) = 2 * 2 ^ n := by rw [Int.pow_succ, Int.mul_comm]
    have ep : (2 : Int) ^ n * 2 ^ (128 - (n + 1)) = 170141183460469231731687303715884105728 := by
      rw [← Int.pow_add]
      have : n + (128 - (n + 1)) = 127 := by omega
      rw [this]
      decide
    rw [en] at hT2 hPq
    -- the top bit
    have eb : hi / 9223372036854775808 = T / 2 ^ n := by
      have : (hi * 18446744073709551616 + lo) / 170141183460469231731687303715884105728 = T / 2 ^ n := by
        rw [hm, ← ep, Int.mul_ediv_mul_of_pos_left _ _ pw]
      rw [← this]
      omega
    have tb := Int.mul_ediv_add_emod T (2 ^ n)
    have tb0 := Int.emod_nonneg T (show (2 : Int) ^ n ≠ 0 by omega)
    have tb1 := Int.emod_lt_of_pos T pn
    have b0 := Int.ediv_nonneg hT (show (0 : Int) ≤ 2 ^ n by omega)
    have b1 : T / 2 ^ n < 2 := Int.ediv_lt_of_lt_mul pn hT2
    have hm' : (hi * 2) % 18446744073709551616 * 18446744073709551616 + lo / 9223372036854775808 * 18446744073709551616 + (lo * 2) % 18446744073709551616 = (T % 2 ^ n) * 2 ^ (128 - n) := by
      have s1 : (T % 2 ^ n) * 2 ^ (128 - n) = 2 * (T * 2 ^ (128 - (n + 1))) - (T / 2 ^ n) * 340282366920938463463374607431768211456 := by
        have tb' : T % 2 ^ n = T - 2 ^ n * (T / 2 ^ n) := by omega
        have e340 : (340282366920938463463374607431768211456 : Int) = 2 * (2 ^ n * 2 ^ (128 - (n + 1))) := by rw [ep]; decide
        rw [tb', ew, e340]
        grind
      rw [s1, ← hm, ← eb]
      omega
    generalize hB : T / 2 ^ n = B at *
    have nQ : Q < 85070591730234615865843651857942052864 := by
      have z : Q * 1 ≤ Q * c := Int.mul_le_mul_of_nonneg_left (by omega) hQ
      have z2 : (Q * c + r) * 2 ≤ (Q * c + r) * (2 * 2 ^ n) := Int.mul_le_mul_of_nonneg_left (by omega) (by omega)
      omega
    have hPn : P = ((2 * Q * c) + (2 * r + B)) * 2 ^ n + T % 2 ^ n := by
      rw [hPq]
      have : T = 2 ^ n * B + T % 2 ^ n := tb.symm
      grind
    have wr : IntKind.u64.wrap ((IntKind.u64.wrap (r * 2)) + (IntKind.u64.wrap (Int.tdiv hi 9223372036854775808))) = 2 * r + B := by
      rw [tdiv_nn h1, eb]
      simp only [IntKind.wrap_u64]
      omega
    have whi : IntKind.u64.wrap ((IntKind.u64.wrap (hi * 2)) + (IntKind.u64.wrap (Int.tdiv lo 9223372036854775808))) = (hi * 2) % 18446744073709551616 + lo / 9223372036854775808 := by
      rw [tdiv_nn h3]
      simp only [IntKind.wrap_u64]
      omega
    have wlo : IntKind.u64.wrap (lo * 2) = (lo * 2) % 18446744073709551616 := IntKind.wrap_u64 _
    have wqh : IntKind.u64.wrap ((IntKind.u64.wrap (qh * 2)) + (IntKind.u64.wrap (Int.tdiv ql 9223372036854775808))) = (2 * Q) / 18446744073709551616 := by
      rw [tdiv_nn (by omega), e1, e2]
      simp only [IntKind.wrap_u64]
      omega
    have wql : IntKind.u64.wrap (ql * 2) = (2 * Q) % 18446744073709551616 := by
      rw [e2]
      simp only [IntKind.wrap_u64]
      omega
    have wi : wrap64 (128 - ((n + 1 : Nat) : Int) + 1) = 128 - (n : Int) := by
      rw [wrap_in ⟨by omega, by omega⟩]
      omega
    refine Ev_round (fun k => by rw [mapmakerref01_MulDiv.l0]) (Ev_pos (by omega) ?_)
    rw [wr, whi, wlo, wqh, wql, wi]
    by_cases c1 : 2 * r + B ≥ c
    · refine Ev_pos c1 ?_
      have wd : IntKind.u64.wrap (2 * r + B - c) = 2 * r + B - c := by
        rw [IntKind.wrap_u64]
        omega
      have wq1 : IntKind.u64.wrap ((2 * Q) % 18446744073709551616 + 1) = (2 * Q + 1) % 18446744073709551616 := by
        rw [IntKind.wrap_u64]
        omega
      rw [wd, wq1]
      refine ih _ _ _ _ _ (T % 2 ^ n) (2 * Q + 1) (by omega) (by omega) (by omega) (by omega) (by omega) ?_ tb0 tb1 (by omega) (by omega) (by omega) (by omega) rfl ?_
      · rw [← hm']
        omega
      · rw [hPn, Int.add_mul]
        grind
    · refine Ev_neg c1 ?_
      refine ih _ _ _ _ _ (T % 2 ^ n) (2 * Q) (by omega) (by omega) (by omega) (by omega) (by omega) ?_ tb0 tb1 (by omega) (by omega) (by omega) rfl rfl hPn
      rw [← hm']
      omega
theorem rMulDiv_ev {a b c : Int} (ha : IsI a) (hb : IsI b) (hc : IsI c) : Ev (fun k => mapmakerref01_MulDiv.f k a b c) (mdv a b c) := by
  unfold IsI at hc
  refine Ev.congr (fun k => by rw [mapmakerref01_MulDiv.f]) ?_
  by_cases c1 : c ≤ 0
  · refine Ev_pos c1 (Ev_const ?_)
    unfold mdv
    rw [if_pos c1]
  · refine Ev_neg c1 ?_
    have ma := mag_bd ha
    have mb := mag_bd hb
    refine Ev.bind (Ev_const (Mag_eq ha)) (Ev.bind (Ev_const (Mag_eq hb)) (Ev.bind (Ev_const (Times_eq ma.1 (by omega) mb.1 (by omega))) ?_))
    have n0 := mm_nn ha hb
    have n1 : mm a b < 170141183460469231731687303715884105728 := by
      have := mul_le ma.1 ma.2 mb.1 mb.2
      unfold mm
      omega
    have sn : (sg a b ≥ 0 → ((decide (a < 0)) != (decide (b < 0))) = true → mm a b = 0) ∧ (¬ sg a b ≥ 0 → ((decide (a < 0)) != (decide (b < 0))) = true) := by
      unfold sg
      constructor
      · intro h e
        rw [if_pos e] at h
        by_cases z : a = 0 ∨ b = 0
        · exact mm_zero z
        · rw [if_neg z] at h
          omega
      · intro h
        by_cases z : a = 0 ∨ b = 0
        · rw [if_pos z] at h
          omega
        · rw [if_neg z] at h
          by_cases e : ((decide (a < 0)) != (decide (b < 0))) = true
          · exact e
          · rw [if_neg e] at h
            omega
    have em : mag a * mag b = mm a b := rfl
    rw [em]
    have wc : IntKind.u64.wrap c = c := by rw [IntKind.wrap_u64]; omega
    simp only []
    rw [wc]
    generalize hneg : ((decide (a < 0)) != (decide (b < 0))) = neg at *
    have goal_eq : (if neg = false then (if mm a b / c < 9223372036854775808 then (mm a b / c, true) else (0, false))
       else if mm a b % c = 0 then (if mm a b / c ≤ 9223372036854775808 then (-(mm a b / c), true) else (0, false))
       else (if mm a b / c < 9223372036854775808 then (-(mm a b / c) - 1, true) else (0, false))) = mdv a b c := by
      unfold mdv
      rw [if_neg c1]
      by_cases s : sg a b ≥ 0
      · rw [if_pos s]
        cases neg
        · rfl
        · have z := sn.1 s rfl
          rw [z, Int.zero_ediv, Int.zero_emod]
          rfl
      · rw [if_neg s, sn.2 s]
        rfl
    rw [← goal_eq]
    have lp := rloop (c := c) (P := mm a b) (neg := neg) (by omega) (by omega) n0 n1 (fun hi lo i h => rtail (by omega) (by omega) n0 n1 h) 128 (mm a b / 18446744073709551616) (mm a b % 18446744073709551616) 0 0 0 (mm a b) 0 (by omega) (by omega) (by omega) (by omega) (by omega) (by simp; omega) n0 (by simp; omega) (by omega) (by omega) (by omega) rfl rfl (by simp)
    exact lp
end Go.Proofs.Ytbjgcfbmifpepaa.Nm
