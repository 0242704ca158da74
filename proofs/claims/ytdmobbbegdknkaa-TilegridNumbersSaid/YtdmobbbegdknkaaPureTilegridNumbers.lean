/- Tile inverts ID, the numbers are in the order of the tiles, and there are 21845 of them: for any tiles and number. -/
import Derived.Test.YtdmobbbegdknkaaTg
import Derived.Test.YtdmobbbegdknkaaPAllx30
namespace Go.Proofs.Ytdmobbbegdknkaa.Pure
open Go.RowKit Go.Proofs.Ytdmobbbegdknkaa.PAll Go.Proofs.YtdmobbbegdknkaaW.PrintWords Go.Proofs.YtdmobbbegdknkaaW.PrintLast Go.Proofs.YtdmobbbegdknkaaW.PrintMore Go.Proofs.Ytdmobbbegdknkaa.Bas Go.Proofs.Ytdmobbbegdknkaa.Tg
set_option linter.unusedVariables false

theorem fin_ev : Ev (fun k => (mapmakerlaw28_lives.f k).bind fun t => some t) true := Ev.bind lives_ev (Ev.now _)
theorem bf_up {z : Int} (h0 : 0 ≤ z) : ∀ n : Nat, z + n ≤ 8 → bf z ≤ bf (z + n)
  | 0, _ => by simp
  | n + 1, h => by
    have a := bf_up h0 n (by omega)
    have b := bf_succ (z := z + n) (by omega) (by omega)
    have c : 0 ≤ pw (z + n) * pw (z + n) := Int.mul_nonneg (by have := pw_pos (z + n); omega) (by have := pw_pos (z + n); omega)
    rw [show z + ((n + 1 : Nat) : Int) = z + n + 1 by omega]
    omega
theorem bf_mono {z w : Int} (h0 : 0 ≤ z) (hw : z ≤ w) (h8 : w ≤ 8) : bf z ≤ bf w := by
  have := bf_up h0 (w - z).toNat (by omega)
  rwa [show z + ((w - z).toNat : Int) = w by omega] at this
/-- The number lies among those of its zoom. -/
theorem id_range {z x y : Int} (g : IsTile z x y) : bf z ≤ bf z + y * pw z + x ∧ bf z + y * pw z + x < bf (z + 1) := by
  have r := row_fits g
  have s := bf_succ g.1 g.2.1
  have := g.2.2.1
  omega
theorem tlf_at {z i : Int} (h0 : 0 ≤ z) (h7 : z ≤ 7) (hb : bf z ≤ i) (hs : i < bf (z + 1)) (n : Nat) : (8 - z ≤ n ∧ n ≤ 8) → tlf i n = (z, (i - bf z) % pw z, (i - bf z) / pw z, true) := by
  induction n with
  | zero =>
    intro h
    omega
  | succ n ih =>
    intro h
    unfold tlf
    by_cases c : 8 - ((n + 1 : Nat) : Int) = z
    · rw [c, if_pos hs]
    · have := bf_mono (z := 8 - ((n + 1 : Nat) : Int) + 1) (w := z) (by omega) (by omega) (by omega)
      rw [if_neg (by omega)]
      exact ih (by omega)
theorem til_id {z x y : Int} (g : IsTile z x y) : til (bf z + y * pw z + x) = (z, x, y, true) := by
  have r := id_range g
  have p := pw_pos z
  have b := bf_le (z := z)
  have f := row_fits g
  obtain ⟨h0, h7, h1, h2, h3, h4⟩ := g
  unfold til
  rw [if_neg (by omega), tlf_at h0 h7 r.1 r.2 8 (by omega), show bf z + y * pw z + x - bf z = x + y * pw z by omega, Int.add_mul_emod_self_right, Int.emod_eq_of_lt h1 h2, Int.add_mul_ediv_right _ _ (by omega), Int.ediv_eq_zero_of_lt h1 h2, Int.zero_add]
theorem zoom_of {i : Int} (h0 : 0 ≤ i) (h : i < 21845) : ∃ z, 0 ≤ z ∧ z ≤ 7 ∧ bf z ≤ i ∧ i < bf (z + 1) := by
  by_cases c1 : i < 1
  · exact ⟨0, by decide, by decide, by simpa [bf] using h0, by simpa [bf] using c1⟩
  by_cases c2 : i < 5
  · exact ⟨1, by decide, by decide, by simp [bf]; omega, by simpa [bf] using c2⟩
  by_cases c3 : i < 21
  · exact ⟨2, by decide, by decide, by simp [bf]; omega, by simpa [bf] using c3⟩
  by_cases c4 : i < 85
  · exact ⟨3, by decide, by decide, by simp [bf]; omega, by simpa [bf] using c4⟩
  by_cases c5 : i < 341
  · exact ⟨4, by decide, by decide, by simp [bf]; omega, by simpa [bf] using c5⟩
  by_cases c6 : i < 1365
  · exact ⟨5, by decide, by decide, by simp [bf]; omega, by simpa [bf] using c6⟩
  by_cases c7 : i < 5461
  · exact ⟨6, by decide, by decide, by simp [bf]; omega, by simpa [bf] using c7⟩
  · exact ⟨7, by decide, by decide, by simp [bf]; omega, by simpa [bf] using h⟩
theorem tlf_out {i : Int} (h : 21845 ≤ i) : ∀ n : Nat, n ≤ 8 → tlf i n = (0, 0, 0, false)
  | 0, _ => rfl
  | n + 1, hn => by
    unfold tlf
    have := bf_le (z := 8 - ((n + 1 : Nat) : Int) + 1)
    rw [if_neg (by omega)]
    exact tlf_out h n (by omega)
theorem TilegridNumbers : mapmakerlaw28_TilegridNumbers.Pure := by
  intro z x y w u v i _ _ hi
  have hi := isI hi
  refine Ev.rounds (Ev.congr (fun k => by rw [mapmakerlaw28_TilegridNumbers.f]) (Ev.bind (id_ev z x y) (Ev.bind (id_ev w u v) ?_)))
  have last : Ev (fun k => mapmakerlaw28_TilegridNumbers.j1 k i false) true := by
    refine Ev_round (fun k => by rw [mapmakerlaw28_TilegridNumbers.j1]) ?_
    refine Ev_neg (by decide) (Ev.bind (tile_ev hi) ?_)
    by_cases c : i ≥ 0
    · refine Ev_pos c ?_
      by_cases d : i < 21845
      · obtain ⟨q, q0, q7, qb, qs⟩ := zoom_of c d
        have e : til i = (q, (i - bf q) % pw q, (i - bf q) / pw q, true) := by
          unfold til
          rw [if_neg (by omega), tlf_at q0 q7 qb qs 8 (by omega)]
        have p := pw_pos q
        have s := bf_succ q0 q7
        have m0 : 0 ≤ (i - bf q) % pw q := Int.emod_nonneg _ (by omega)
        have m1 : (i - bf q) % pw q < pw q := Int.emod_lt_of_pos _ (by omega)
        have d0 : 0 ≤ (i - bf q) / pw q := Int.ediv_nonneg (by omega) (by omega)
        have d1 : (i - bf q) / pw q < pw q := Int.ediv_lt_of_lt_mul (by omega) (by omega)
        have g : IsTile q ((i - bf q) % pw q) ((i - bf q) / pw q) := ⟨q0, q7, m0, m1, d0, d1⟩
        have hn : idn q ((i - bf q) % pw q) ((i - bf q) / pw q) = i := by
          unfold idn
          rw [if_pos g]
          have := Int.emod_add_mul_ediv (i - bf q) (pw q)
          rw [Int.mul_comm] at this
          omega
        rw [e]
        refine Ev_pos (by simp [d]) (Ev_pos rfl (Ev.bind (id_ev _ _ _) (Ev_pos hn fin_ev)))
      · have e : til i = (0, 0, 0, false) := by
          unfold til
          rw [if_neg (by omega)]
          exact tlf_out (by omega) 8 (by omega)
        rw [e]
        exact Ev_pos (by simp [d]) (Ev_neg (by decide) fin_ev)
    · refine Ev_neg c ?_
      have e : til i = (0, 0, 0, false) := by
        unfold til
        rw [if_pos (by omega)]
      rw [e]
      exact Ev_pos rfl (Ev_neg (by decide) fin_ev)
  have mid : Ev (fun k => mapmakerlaw28_TilegridNumbers.j0 k i (idn z x y) (idn w u v) z x y w u v) true := by
    refine Ev_round (fun k => by rw [mapmakerlaw28_TilegridNumbers.j0]) ?_
    by_cases c0 : idn z x y ≥ 0
    · refine Ev_pos c0 ?_
      by_cases c1 : idn w u v ≥ 0
      · refine Ev_pos c1 (Ev.congr (fun k => by rw [less_eq, Option.bind_some]) ?_)
        have g0 : IsTile z x y := by
          by_cases g : IsTile z x y
          · exact g
          · unfold idn at c0
            rw [if_neg g] at c0
            omega
        have g1 : IsTile w u v := by
          by_cases g : IsTile w u v
          · exact g
          · unfold idn at c1
            rw [if_neg g] at c1
            omega
        have key : (idn z x y < idn w u v) ↔ (z < w ∨ z = w ∧ (y < v ∨ y = v ∧ x < u)) := by
          have r0 := id_range g0
          have r1 := id_range g1
          unfold idn
          rw [if_pos g0, if_pos g1]
          obtain ⟨a0, a7, a1, a2, a3, a4⟩ := g0
          obtain ⟨b0, b7, b1, b2, b3, b4⟩ := g1
          rcases Int.lt_trichotomy z w with h | h | h
          · have := bf_mono (z := z + 1) (w := w) (by omega) (by omega) (by omega)
            omega
          · rw [← h] at b2 b4 ⊢
            rcases sides a0 a7 with k | k | k | k | k | k | k | k <;> obtain ⟨_, k, _⟩ := k <;> rw [k] at a2 a4 b2 b4 ⊢ <;> omega
          · have := bf_mono (z := w + 1) (w := z) (by omega) (by omega) (by omega)
            omega
        have e : ((decide (idn z x y < idn w u v)) != less z x y w u v) = false := by
          unfold less
          by_cases cc : z < w ∨ z = w ∧ (y < v ∨ y = v ∧ x < u)
          · rw [decide_eq_true (key.2 cc), decide_eq_true cc]
            rfl
          · rw [decide_eq_false (fun h => cc (key.1 h)), decide_eq_false cc]
            rfl
        rw [e]
        exact last
      · exact Ev_neg c1 last
    · exact Ev_neg c0 last
  by_cases c : idn z x y ≥ 0
  · have g : IsTile z x y := by
      by_cases g : IsTile z x y
      · exact g
      · unfold idn at c
        rw [if_neg g] at c
        omega
    have e : idn z x y = bf z + y * pw z + x := if_pos g
    have f : IsI (idn z x y) := by
      have r := id_range g
      have b := bf_le (z := z + 1)
      have b0 := bf_le (z := z)
      rw [e]
      exact ⟨by omega, by omega⟩
    refine Ev_pos c (Ev.bind (tile_ev f) ?_)
    rw [show til (idn z x y) = (z, x, y, true) by rw [e]; exact til_id g]
    refine Ev_pos rfl (Ev_neg (by simp) (Ev.congr (fun k => by rw [check_eq, Option.bind_some]) (Ev_pos (chk_zero.2 g) mid)))
  · exact Ev_neg c mid
end Go.Proofs.Ytdmobbbegdknkaa.Pure
