/- The points of an aligned square whose side is a power of two have consecutive positions. -/
import Derived.Test.YtffpomipmnlnjaaHiP
import Derived.Test.YtffpomipmnlnjaaPAllx14
namespace Go.Proofs.Ytffpomipmnlnjaa.Pure
open Go.RowKit Go.Proofs.Ytffpomipmnlnjaa.PAll Go.Proofs.YtffpomipmnlnjaaW.PrintWords Go.Proofs.YtffpomipmnlnjaaW.PrintLast Go.Proofs.YtffpomipmnlnjaaW.PrintMore Go.Proofs.Ytffpomipmnlnjaa.Bas Go.Proofs.Ytffpomipmnlnjaa.Hi
set_option linter.unusedVariables false
set_option linter.unusedSimpArgs false

theorem neg_div {a g y : Int} (hg : 0 < g) : (a * g - 1 - y) / g = a - 1 - y / g := by
  have e := Int.mul_ediv_add_emod y g
  have m0 := Int.emod_nonneg y (show g ≠ 0 by omega)
  have m1 := Int.emod_lt_of_pos y hg
  have t : a * g - 1 - y = (a - 1 - y / g) * g + (g - 1 - y % g) := by
    rw [Int.sub_mul, Int.sub_mul]
    rw [Int.mul_comm g] at e
    omega
  rw [t]
  exact (div_add hg (by omega) (by omega)).1
theorem sub_div {a g x : Int} (hg : 0 < g) : (x - a * g) / g = x / g - a := by
  have : x - a * g = x + (-a) * g := by rw [Int.neg_mul]; omega
  rw [this, Int.add_mul_ediv_right _ _ (by omega)]
  omega
theorem lt_div {a g x : Int} (hg : 0 < g) : x < a * g ↔ x / g < a := (Int.ediv_lt_iff_lt_mul hg).symm
theorem hx_cut (k m : Nat) : ∀ x y : Int, Sq (m + k) x y → hx (m + k) x y / 4 ^ k = hx m (x / 2 ^ k) (y / 2 ^ k) ∧ Sq m (x / 2 ^ k) (y / 2 ^ k) := by
  have g := p2 k
  have f := p4 k
  induction m with
  | zero =>
    intro x y h
    rw [Nat.zero_add] at h ⊢
    have b := hx_bd k x y h
    obtain ⟨x0, x1, y0, y1⟩ := h
    refine ⟨Int.ediv_eq_zero_of_lt b.1 b.2, ?_⟩
    rw [Int.ediv_eq_zero_of_lt x0 x1, Int.ediv_eq_zero_of_lt y0 y1]
    exact ⟨by decide, by decide, by decide, by decide⟩
  | succ m ih =>
    intro x y h
    have en : m + 1 + k = m + k + 1 := by omega
    have e2 : (2 : Int) ^ (m + k) = 2 ^ m * 2 ^ k := Int.pow_add ..
    have e4 : (4 : Int) ^ (m + k) = 4 ^ m * 4 ^ k := Int.pow_add ..
    rw [en] at h ⊢
    obtain ⟨x0, x1, y0, y1⟩ := h
    rw [s2] at x1 y1
    have pm := p2 (m + k)
    have X0 := Int.ediv_nonneg x0 (show (0 : Int) ≤ 2 ^ k by omega)
    have Y0 := Int.ediv_nonneg y0 (show (0 : Int) ≤ 2 ^ k by omega)
    have X1 : x / 2 ^ k < 2 * 2 ^ m := by
      rw [← lt_div g, Int.mul_assoc, ← e2]
      exact x1
    have Y1 : y / 2 ^ k < 2 * 2 ^ m := by
      rw [← lt_div g, Int.mul_assoc, ← e2]
      exact y1
    have lx : x < 2 ^ (m + k) ↔ x / 2 ^ k < 2 ^ m := by rw [e2]; exact lt_div g
    have ly : y < 2 ^ (m + k) ↔ y / 2 ^ k < 2 ^ m := by rw [e2]; exact lt_div g
    have cut : ∀ q A : Int, (q * 4 ^ (m + k) + A) / 4 ^ k = q * 4 ^ m + A / 4 ^ k := by
      intro q A
      rw [e4, ← Int.mul_assoc, Int.add_comm, Int.add_mul_ediv_right _ _ (by omega), Int.add_comm]
    have dx : (x - 2 ^ (m + k)) / 2 ^ k = x / 2 ^ k - 2 ^ m := by rw [e2]; exact sub_div g
    have dy : (y - 2 ^ (m + k)) / 2 ^ k = y / 2 ^ k - 2 ^ m := by rw [e2]; exact sub_div g
    have ny : (2 ^ (m + k) - 1 - y) / 2 ^ k = 2 ^ m - 1 - y / 2 ^ k := by rw [e2]; exact neg_div g
    have nx : (2 * 2 ^ (m + k) - 1 - x) / 2 ^ k = 2 * 2 ^ m - 1 - x / 2 ^ k := by rw [e2, ← Int.mul_assoc]; exact neg_div g
    refine ⟨?_, X0, by rw [s2]; exact X1, Y0, by rw [s2]; exact Y1⟩
    rw [hx.eq_2 x y (m + k), hx.eq_2 (x / 2 ^ k) (y / 2 ^ k) m]
    by_cases c : x < 2 ^ (m + k) <;> by_cases d : y < 2 ^ (m + k)
    · rw [if_pos c, if_pos d, if_pos (lx.1 c), if_pos (ly.1 d)]
      exact (ih y x ⟨y0, d, x0, c⟩).1
    · rw [if_pos c, if_neg d, if_pos (lx.1 c), if_neg (fun z => d (ly.2 z))]
      have t := cut 1 (hx (m + k) x (y - 2 ^ (m + k)))
      rw [Int.one_mul, Int.one_mul] at t
      rw [t, (ih x (y - 2 ^ (m + k)) ⟨x0, c, by omega, by omega⟩).1, dy]
    · have d' : ¬ y ≥ 2 ^ (m + k) := by omega
      have d2 := ly.1 d
      rw [if_neg c, if_neg d', if_neg (fun z => c (lx.2 z)), if_neg (by omega), cut, (ih _ _ ⟨by omega, by omega, by omega, by omega⟩).1, ny, nx]
    · have d' : y ≥ 2 ^ (m + k) := by omega
      have d2 : ¬ y / 2 ^ k < 2 ^ m := fun z => d (ly.2 z)
      rw [if_neg c, if_pos d', if_neg (fun z => c (lx.2 z)), if_pos (by omega), cut, (ih _ _ ⟨by omega, by omega, by omega, by omega⟩).1, dx, dy]
theorem cell_iff {k : Nat} (hk : k ≤ 15) {x y u v : Int} (h : Vd x y) (h' : Vd u v) : hx 15 x y / 4 ^ k = hx 15 u v / 4 ^ k ↔ x / 2 ^ k = u / 2 ^ k ∧ y / 2 ^ k = v / 2 ^ k := by
  have e : 15 = (15 - k) + k := by omega
  have s : ∀ a b, Vd a b → Sq ((15 - k) + k) a b := fun a b w => by rw [← e]; exact w
  obtain ⟨c1, q1⟩ := hx_cut k (15 - k) x y (s _ _ h)
  obtain ⟨c2, q2⟩ := hx_cut k (15 - k) u v (s _ _ h')
  rw [← e] at c1 c2
  rw [c1, c2]
  constructor
  · intro z
    have t1 := hp_hx (15 - k) _ _ q1
    have t2 := hp_hx (15 - k) _ _ q2
    rw [z, t2] at t1
    exact ⟨(Prod.ext_iff.1 t1).1.symm, (Prod.ext_iff.1 t1).2.symm⟩
  · rintro ⟨z1, z2⟩
    rw [z1, z2]
theorem HilbertCells : mapmakerlaw10_HilbertCells.Pure := by
  intro x y u v z hp' hq' hz
  refine Ev.rounds (Ev.congr (fun k => by rw [mapmakerlaw10_HilbertCells.f]) ?_)
  have out : ∀ t : Bool, t = true → Ev (fun k => mapmakerlaw10_HilbertCells.j0 k z t x y u v) true := fun t ht =>
    Ev_round (fun k => by rw [mapmakerlaw10_HilbertCells.j0]) (Ev_pos ht fin_ev)
  by_cases c1 : z < 0
  · exact Ev_pos c1 (out _ rfl)
  refine Ev_neg c1 ?_
  by_cases c2 : z > 15
  · exact Ev_pos c2 (out _ rfl)
  refine Ev_neg c2 ?_
  by_cases c3 : x < 0
  · exact Ev_pos c3 (out _ rfl)
  refine Ev_neg c3 ?_
  by_cases c4 : x ≥ 32768
  · exact Ev_pos c4 (out _ rfl)
  refine Ev_neg c4 ?_
  by_cases c5 : y < 0
  · exact Ev_pos c5 (out _ rfl)
  refine Ev_neg c5 ?_
  by_cases c6 : y ≥ 32768
  · exact Ev_pos c6 (out _ rfl)
  refine Ev_neg c6 ?_
  by_cases c7 : u < 0
  · exact Ev_pos c7 (out _ rfl)
  refine Ev_neg c7 ?_
  by_cases c8 : u ≥ 32768
  · exact Ev_pos c8 (out _ rfl)
  refine Ev_neg c8 ?_
  by_cases c9 : v < 0
  · exact Ev_pos c9 (out _ rfl)
  refine Ev_neg c9 ?_
  by_cases c10 : v ≥ 32768
  · exact out _ (by simpa using c10)
  refine Ev_round (fun k => by rw [mapmakerlaw10_HilbertCells.j0]) (Ev_neg (by simpa using c10) (Ev_pos (by omega) ?_))
  obtain ⟨k, rfl⟩ : ∃ k : Nat, z = k := ⟨z.toNat, by omega⟩
  have hk : k ≤ 15 := by omega
  have a := p2 k
  have b := two_le k hk
  have sh : shl .i64 1 (k : Int) = 2 ^ k := by
    show IntKind.i64.wrap (1 * 2 ^ min k 64) = _
    have : min k 64 = k := by omega
    rw [this, Int.one_mul, IntKind.wrap_i64]
    omega
  rw [sh]
  have vp : Vd x y := ⟨by omega, by omega, by omega, by omega⟩
  have vq : Vd u v := ⟨by omega, by omega, by omega, by omega⟩
  have ip : idx x y = hx 15 x y := if_pos vp
  have iq : idx u v = hx 15 u v := if_pos vq
  have bp := hx_bd 15 x y vp
  have bq := hx_bd 15 u v vq
  have t : (4 : Int) ^ 15 = 1073741824 := by decide
  rw [t] at bp bq
  have w : ∀ n : Int, 0 ≤ n → n < 1073741824 → wrap64 (Int.tdiv n (2 ^ k)) = n / 2 ^ k ∧ 0 ≤ n / 2 ^ k ∧ n / 2 ^ k < 1073741824 := by
    intro n h0 h1
    have q0 := Int.ediv_nonneg h0 (show (0 : Int) ≤ 2 ^ k by omega)
    have q1 : n / 2 ^ k ≤ n := Int.ediv_le_self _ h0
    rw [tdiv_nn h0, wrap_in ⟨by omega, by omega⟩]
    exact ⟨rfl, q0, by omega⟩
  have sq : (2 : Int) ^ k * 2 ^ k = 4 ^ k := by rw [← Int.mul_pow]; rfl
  have ww : ∀ n : Int, 0 ≤ n → n < 1073741824 → wrap64 (Int.tdiv (wrap64 (Int.tdiv n (2 ^ k))) (2 ^ k)) = n / 4 ^ k := by
    intro n h0 h1
    obtain ⟨w1, w2, w3⟩ := w n h0 h1
    rw [w1, (w _ w2 w3).1, Int.ediv_ediv, if_neg (fun h => by omega), Int.sub_zero, sq]
  refine Ev.bind (Index_ev x y) (Ev.bind (Index_ev u v) (Ev_neg (by omega) ?_))
  rw [ip, iq, ww _ bp.1 bp.2, ww _ bq.1 bq.2, (w x (by omega) (by omega)).1, (w y (by omega) (by omega)).1, (w u (by omega) (by omega)).1, (w v (by omega) (by omega)).1]
  have ci := cell_iff hk vp vq
  by_cases e : x / 2 ^ k = u / 2 ^ k
  · refine Ev_pos e (Ev_pos ?_ fin_ev)
    rw [beq_iff_eq, Bool.eq_iff_iff, beq_iff_eq, beq_iff_eq, ci]
    exact ⟨fun h => h.2, fun h => ⟨e, h⟩⟩
  · refine Ev_neg e (Ev_pos ?_ fin_ev)
    rw [beq_iff_eq, beq_eq_false_iff_ne]
    exact fun h => e (ci.1 h).1

end Go.Proofs.Ytffpomipmnlnjaa.Pure
