/- Cover, the program's and the reference's: the same rows of tiles. Same holds of a list and itself. -/
import Derived.Test.YtdmobbbegdknkaaTg
import Derived.Test.YtdmobbbegdknkaaPAllx9
import Derived.Test.YtdmobbbegdknkaaPAllx14
import Derived.Test.YtdmobbbegdknkaaPAllx8
import Derived.Test.YtdmobbbegdknkaaPAllx7
import Derived.Test.YtdmobbbegdknkaaPAllx13
namespace Go.Proofs.Ytdmobbbegdknkaa.Tg
open Go.RowKit Go.Proofs.Ytdmobbbegdknkaa.PAll Go.Proofs.YtdmobbbegdknkaaW.PrintWords Go.Proofs.YtdmobbbegdknkaaW.PrintLast Go.Proofs.YtdmobbbegdknkaaW.PrintMore Go.Proofs.Ytdmobbbegdknkaa.Bas
set_option linter.unusedVariables false

/-- Tiles of a row, from one on. -/
def line (z y a : Int) : Nat → List S30
  | 0 => []
  | n + 1 => ⟨z, a, y⟩ :: line z y (a + 1) n
/-- Rows of tiles. -/
def rows (z x : Int) (m : Nat) (y : Int) : Nat → List S30
  | 0 => []
  | n + 1 => line z y x m ++ rows z x m (y + 1) n
theorem length_line (z y : Int) : ∀ (n : Nat) (a : Int), (line z y a n).length = n
  | 0, _ => rfl
  | n + 1, a => by
    unfold line
    rw [List.length_cons, length_line z y n]
theorem length_rows (z x : Int) (m : Nat) : ∀ (n : Nat) (y : Int), (rows z x m y n).length = n * m
  | 0, _ => by simp [rows]
  | n + 1, y => by
    unfold rows
    rw [List.length_append, length_line, length_rows z x m n, Nat.succ_mul, Nat.add_comm]
theorem mem_line {z y : Int} : ∀ {n : Nat} {a x : Int}, a ≤ x → x < a + n → (⟨z, x, y⟩ : S30) ∈ line z y a n
  | 0, a, x, h0, h1 => by omega
  | n + 1, a, x, h0, h1 => by
    unfold line
    by_cases h : x = a
    · rw [h]
      exact List.mem_cons_self
    · exact List.mem_cons_of_mem _ (mem_line (by omega) (by omega))
theorem mem_rows {z x0 : Int} {m : Nat} : ∀ {n : Nat} {a x y : Int}, a ≤ y → y < a + n → x0 ≤ x → x < x0 + m → (⟨z, x, y⟩ : S30) ∈ rows z x0 m a n
  | 0, a, x, y, h0, h1, _, _ => by omega
  | n + 1, a, x, y, h0, h1, h2, h3 => by
    unfold rows
    by_cases h : y = a
    · rw [h]
      exact List.mem_append_left _ (mem_line h2 h3)
    · exact List.mem_append_right _ (mem_rows (by omega) (by omega) h2 h3)

/-- A box of the grid. -/
def gb (a b c d : Int) : Bool := decide (0 ≤ a ∧ a ≤ c ∧ c ≤ 32768 ∧ 0 ≤ b ∧ b ≤ d ∧ d ≤ 32768)
theorem gvalid_eq (a b c d : Int) : grid_valid.f a b c d = some (gb a b c d) := by
  unfold grid_valid.f gb
  repeat' split
  all_goals (apply congrArg some; rw [Bool.eq_iff_iff]; simp; omega)
theorem rgood_eq (a b c d : Int) : mapmakerref08_Good.f a b c d = some (gb a b c d) := by
  unfold mapmakerref08_Good.f gb
  repeat' split
  all_goals (apply congrArg some; rw [Bool.eq_iff_iff]; simp; omega)
theorem gcheck_eq (a b c d : Int) : grid_Check.f a b c d = some (if gb a b c d = true then 0 else 2) := by
  unfold grid_Check.f
  rw [gvalid_eq, Option.bind_some]
  split <;> rfl
theorem rgcheck_eq (a b c d : Int) : mapmakerref08_Check.f a b c d = some (if gb a b c d = true then 0 else 2) := by
  unfold mapmakerref08_Check.f
  rw [rgood_eq, Option.bind_some]
  split <;> rfl

/-- The first tile that meets. -/
def fst (z v : Int) : Int := if v = 0 then 0 else (v - 1) / sz z
/-- The last tile that meets. -/
def lst (z v : Int) : Int := if pw z - 1 < v / sz z then pw z - 1 else v / sz z
theorem sz_pos {z : Int} (h0 : 0 ≤ z) (h7 : z ≤ 7) : 256 ≤ sz z ∧ sz z ≤ 32768 := by
  rcases sides h0 h7 with k | k | k | k | k | k | k | k <;> omega
theorem first_eq {z v : Int} (h0 : 0 ≤ z) (h7 : z ≤ 7) (v0 : 0 ≤ v) (v1 : v ≤ 32768) : tilegrid_first.f (sz z) v = some (fst z v) := by
  have s := sz_pos h0 h7
  unfold tilegrid_first.f num_FloorDiv.f fst
  rw [if_neg (show ¬ sz z ≤ 0 by omega), if_neg (show ¬ sz z = 0 by omega), wrap_in (x := v - 1) ⟨by omega, by omega⟩]
  by_cases hv : v = 0
  · rw [hv, if_pos rfl]
    rcases sides h0 h7 with k | k | k | k | k | k | k | k <;> obtain ⟨_, _, k⟩ := k <;> rw [k] <;> decide +kernel
  · have d0 : 0 ≤ (v - 1) / sz z := Int.ediv_nonneg (by omega) (by omega)
    have d1 : (v - 1) / sz z ≤ v - 1 := Int.ediv_le_self _ (by omega)
    have m0 : 0 ≤ (v - 1) % sz z := Int.emod_nonneg _ (by omega)
    rw [if_neg hv, tmod_nn (by omega), tdiv_nn (by omega), if_neg (by omega), Option.bind_some, wrap_in ⟨by omega, by omega⟩, mx_eq]
    rw [Int.max_eq_right d0]
theorem last_eq {z v : Int} (h0 : 0 ≤ z) (h7 : z ≤ 7) (v0 : 0 ≤ v) (v1 : v ≤ 32768) : tilegrid_last.f z (sz z) v = some (lst z v) := by
  have s := sz_pos h0 h7
  have p := pw_pos z
  have d0 : 0 ≤ v / sz z := Int.ediv_nonneg v0 (by omega)
  have d1 : v / sz z ≤ v := Int.ediv_le_self _ v0
  unfold tilegrid_last.f lst mn
  rw [side_eq h0 h7, Option.bind_some, if_neg (by omega), tdiv_nn v0, wrap_in (x := pw z - 1) ⟨by omega, by omega⟩, wrap_in (x := v / sz z) ⟨by omega, by omega⟩]
  apply congrArg some
  split <;> split <;> omega
theorem first_bounds {z v : Int} (h0 : 0 ≤ z) (h7 : z ≤ 7) (v0 : 0 ≤ v) (v1 : v ≤ 32768) : 0 ≤ fst z v ∧ fst z v ≤ 127 := by
  unfold fst
  rcases sides h0 h7 with k | k | k | k | k | k | k | k <;> obtain ⟨_, _, k⟩ := k <;> rw [k] <;> split <;> omega
theorem last_bounds {z v : Int} (h0 : 0 ≤ z) (h7 : z ≤ 7) (v0 : 0 ≤ v) (v1 : v ≤ 32768) : 0 ≤ lst z v ∧ lst z v ≤ pw z - 1 := by
  unfold lst
  rcases sides h0 h7 with k | k | k | k | k | k | k | k <;> obtain ⟨_, k1, k⟩ := k <;> rw [k1, k] <;> split <;> omega
/-- What the reference asks of a column is what the program reckons. -/
theorem meets_iff {z a c x : Int} (h0 : 0 ≤ z) (h7 : z ≤ 7) (a0 : 0 ≤ a) (ac : a ≤ c) (c1 : c ≤ 32768) (x0 : 0 ≤ x) (xp : x < pw z) : (x * sz z ≤ c ∧ a ≤ (x + 1) * sz z) ↔ (fst z a ≤ x ∧ x ≤ lst z c) := by
  unfold fst lst
  rcases sides h0 h7 with k | k | k | k | k | k | k | k <;> obtain ⟨_, k1, k⟩ := k <;> rw [k1] at xp <;> rw [k1, k] <;> split <;> split <;> omega
theorem span_fits {z x : Int} (h0 : 0 ≤ z) (h7 : z ≤ 7) (x0 : 0 ≤ x) (xp : x < pw z) : 0 ≤ x * sz z ∧ x * sz z ≤ 32768 ∧ 0 ≤ (x + 1) * sz z ∧ (x + 1) * sz z ≤ 32768 := by
  rcases sides h0 h7 with k | k | k | k | k | k | k | k <;> obtain ⟨_, k1, k⟩ := k <;> rw [k1] at xp <;> rw [k] <;> omega

theorem cov_l1 {z x0 x1 y0 yi N : Int} {r : List S30} (a0 : 0 ≤ x0 ∧ x0 ≤ 127) (a1 : 0 ≤ x1 ∧ x1 ≤ 127) (b0 : 0 ≤ y0 ∧ y0 ≤ 127) (c0 : 0 ≤ yi ∧ yi ≤ 128) (n : Nat) :
    ∀ (xj : Int) (out : List S30), 0 ≤ xj → (x1 - x0 + 1 - xj).toNat = n → (out.length : Int) ≤ 128 * yi + xj → (xj = 0 ∨ xj ≤ x1 - x0 + 1) →
    Ev (fun k => tilegrid_Cover.l0 k x0 x1 y0 (out ++ line z (y0 + yi) (x0 + xj) n) N (wrap64 (yi + 1)) z) r → Ev (fun k => tilegrid_Cover.l1 k x0 x1 y0 out yi N yi (x1 - x0 + 1) xj z) r := by
  induction n with
  | zero =>
    intro xj out h0 hn hl hj next
    refine Ev_round (fun k => by rw [tilegrid_Cover.l1]) (Ev_neg (by omega) ?_)
    simpa [line] using next
  | succ n ih =>
    intro xj out h0 hn hl hj next
    refine Ev_round (fun k => by rw [tilegrid_Cover.l1]) (Ev_pos (by omega) (Ev_pos (by omega) ?_))
    rw [wrap_in (x := x0 + xj) ⟨by omega, by omega⟩, wrap_in (x := y0 + yi) ⟨by omega, by omega⟩, wrap_in (x := xj + 1) ⟨by omega, by omega⟩]
    refine ih (xj + 1) _ (by omega) (by omega) (by rw [List.length_append]; simp; omega) (Or.inr (by omega)) ?_
    rw [List.append_assoc, show x0 + (xj + 1) = x0 + xj + 1 by omega]
    exact next
theorem cov_l0 {z x0 x1 y0 N : Int} (a0 : 0 ≤ x0 ∧ x0 ≤ 127) (a1 : 0 ≤ x1 ∧ x1 ≤ 127) (b0 : 0 ≤ y0 ∧ y0 ≤ 127) (c0 : N ≤ 128) (n : Nat) :
    ∀ (yi : Int) (out : List S30), 0 ≤ yi → (N - yi).toNat = n → (out.length : Int) ≤ 128 * yi →
    Ev (fun k => tilegrid_Cover.l0 k x0 x1 y0 out N yi z) (out ++ rows z x0 (x1 - x0 + 1).toNat (y0 + yi) n) := by
  induction n with
  | zero =>
    intro yi out h0 hn hl
    refine Ev_round (fun k => by rw [tilegrid_Cover.l0]) (Ev_neg (by omega) ?_)
    rw [rows, List.append_nil]
    exact Ev.now _
  | succ n ih =>
    intro yi out h0 hn hl
    refine Ev_round (fun k => by rw [tilegrid_Cover.l0]) (Ev_pos (by omega) ?_)
    rw [wrap_in (x := x1 - x0) ⟨by omega, by omega⟩, wrap_in (x := x1 - x0 + 1) ⟨by omega, by omega⟩]
    refine cov_l1 a0 a1 b0 ⟨h0, by omega⟩ (x1 - x0 + 1).toNat 0 out (by omega) (by rw [Int.sub_zero]) (by omega) (Or.inl rfl) ?_
    rw [wrap_in (x := yi + 1) ⟨by omega, by omega⟩, Int.add_zero]
    refine Ev_eq ?_ (ih (yi + 1) _ (by omega) (by omega) (by rw [List.length_append, length_line]; omega))
    rw [rows, List.append_assoc, show y0 + (yi + 1) = y0 + yi + 1 by omega]

/-- Cover. -/
def cov (a b c d z : Int) : List S30 := if gb a b c d = true ∧ 0 ≤ z ∧ z ≤ 7 then rows z (fst z a) (lst z c - fst z a + 1).toNat (fst z b) (lst z d - fst z b + 1).toNat else []
theorem gb_iff {a b c d : Int} : gb a b c d = true ↔ 0 ≤ a ∧ a ≤ c ∧ c ≤ 32768 ∧ 0 ≤ b ∧ b ≤ d ∧ d ≤ 32768 := by
  unfold gb
  exact decide_eq_true_iff
theorem cover_ev (a b c d z : Int) : Ev (fun k => tilegrid_Cover.f k a b c d z) (cov a b c d z) := by
  refine Ev.congr (fun k => by rw [tilegrid_Cover.f, size_eq, Option.bind_some]) ?_
  unfold cov
  by_cases hz : 0 ≤ z ∧ z ≤ 7
  · obtain ⟨h0, h7⟩ := hz
    have s := sz_pos h0 h7
    refine Ev_neg (by omega) (Ev.congr (fun k => by rw [gcheck_eq, Option.bind_some, tilegrid_Cover.j0]) ?_)
    by_cases g : gb a b c d = true
    · have g' := gb_iff.1 g
      have f0 := first_bounds (z := z) (v := a) h0 h7 (by omega) (by omega)
      have f1 := last_bounds (z := z) (v := c) h0 h7 (by omega) (by omega)
      have f2 := first_bounds (z := z) (v := b) h0 h7 (by omega) (by omega)
      have f3 := last_bounds (z := z) (v := d) h0 h7 (by omega) (by omega)
      have p := pw_pos z
      rw [if_pos g, if_pos ⟨g, h0, h7⟩]
      refine Ev_neg (by decide) (Ev.congr (fun k => by rw [first_eq h0 h7 (by omega) (by omega), Option.bind_some, last_eq h0 h7 (by omega) (by omega), Option.bind_some, first_eq h0 h7 (by omega) (by omega), Option.bind_some, last_eq h0 h7 (by omega) (by omega), Option.bind_some]) ?_)
      rw [wrap_in (x := lst z d - fst z b) ⟨by omega, by omega⟩, wrap_in (x := lst z d - fst z b + 1) ⟨by omega, by omega⟩]
      have := cov_l0 (z := z) (N := lst z d - fst z b + 1) f0 ⟨f1.1, by omega⟩ f2 (by omega) (lst z d - fst z b + 1).toNat 0 [] (by omega) (by rw [Int.sub_zero]) (by simp)
      simpa using this
    · rw [if_neg g, if_neg (fun h => g h.1)]
      exact Ev_pos (by decide) (Ev.now _)
  · have e : sz z = 0 := by
      by_cases h : sz z = 0
      · exact h
      · exact absurd (sz_ne.1 h) hz
    rw [e, if_neg (fun h => hz h.2)]
    exact Ev_pos rfl (Ev.congr (fun k => by rw [tilegrid_Cover.j0]) (Ev_pos rfl (Ev.now _)))

theorem rcov_l1 {z x0 x1 y a b c d : Int} {r : List S30} (h0 : 0 ≤ z) (h7 : z ≤ 7) (hb : 0 ≤ a ∧ a ≤ c ∧ c ≤ 32768) (e0 : x0 = fst z a) (e1 : x1 = lst z c) (c0 : 0 ≤ y ∧ y ≤ 128) (n : Nat) :
    ∀ (x : Int) (out : List S30), 0 ≤ x → pw z - x = n → (out.length : Int) ≤ 128 * y + x →
    Ev (fun k => mapmakerref28_Cover.l0 k z (out ++ line z y (max x x0) (x1 + 1 - max x x0).toNat) (sz z) (wrap64 (y + 1)) a b c d) r → Ev (fun k => mapmakerref28_Cover.l1 k z out (sz z) y x a b c d) r := by
  have l1 := last_bounds (z := z) (v := c) h0 h7 (by omega) (by omega)
  have p := pw_pos z
  rw [← e1] at l1
  induction n with
  | zero =>
    intro x out g0 hn hl next
    refine Ev_round (fun k => by rw [mapmakerref28_Cover.l1]) (Ev.bind (power_ev h0 h7) ?_)
    refine Ev_neg (by omega) ?_
    rw [show (x1 + 1 - max x x0).toNat = 0 by omega, line, List.append_nil] at next
    exact next
  | succ n ih =>
    intro x out g0 hn hl next
    have m := meets_iff h0 h7 hb.1 hb.2.1 hb.2.2 g0 (show x < pw z by omega)
    have s := span_fits h0 h7 g0 (show x < pw z by omega)
    rw [← e0, ← e1] at m
    refine Ev_round (fun k => by rw [mapmakerref28_Cover.l1]) (Ev.bind (power_ev h0 h7) ?_)
    refine Ev_pos (by omega) ?_
    rw [wrap_in (x := x * sz z) ⟨by omega, by omega⟩, wrap_in (x := x + 1) ⟨by omega, by omega⟩, wrap_in (x := (x + 1) * sz z) ⟨by omega, by omega⟩]
    have skip : ¬ (x0 ≤ x ∧ x ≤ x1) → Ev (fun k => mapmakerref28_Cover.l1 k z out (sz z) y (x + 1) a b c d) r := fun hs => by
      refine ih (x + 1) out (by omega) (by omega) (by omega) ?_
      by_cases hx : x < x0
      · rw [show max (x + 1) x0 = max x x0 by omega]
        exact next
      · rw [show (x1 + 1 - max x x0).toNat = 0 by omega, line] at next
        rw [show (x1 + 1 - max (x + 1) x0).toNat = 0 by omega, line]
        exact next
    by_cases t0 : x * sz z ≤ c
    · refine Ev_pos t0 ?_
      by_cases t1 : (x + 1) * sz z ≥ a
      · have hm := m.1 ⟨t0, t1⟩
        refine Ev_pos t1 (Ev_pos (by omega) (ih (x + 1) _ (by omega) (by omega) (by rw [List.length_append]; simp; omega) ?_))
        rw [show max x x0 = x by omega, show (x1 + 1 - x).toNat = (x1 + 1 - (x + 1)).toNat + 1 by omega, line] at next
        rw [show max (x + 1) x0 = x + 1 by omega, List.append_assoc]
        exact next
      · exact Ev_neg t1 (skip (fun h => t1 (m.2 h).2))
    · exact Ev_neg t0 (skip (fun h => t0 (m.2 h).1))
theorem rcov_l0 {z x0 x1 y0 y1 a b c d : Int} (h0 : 0 ≤ z) (h7 : z ≤ 7) (hb : 0 ≤ a ∧ a ≤ c ∧ c ≤ 32768) (hd : 0 ≤ b ∧ b ≤ d ∧ d ≤ 32768) (e0 : x0 = fst z a) (e1 : x1 = lst z c) (e2 : y0 = fst z b) (e3 : y1 = lst z d) (n : Nat) :
    ∀ (y : Int) (out : List S30), 0 ≤ y → pw z - y = n → (out.length : Int) ≤ 128 * y →
    Ev (fun k => mapmakerref28_Cover.l0 k z out (sz z) y a b c d) (out ++ rows z x0 (x1 + 1 - x0).toNat (max y y0) (y1 + 1 - max y y0).toNat) := by
  have l1 := last_bounds (z := z) (v := d) h0 h7 (by omega) (by omega)
  have l2 := last_bounds (z := z) (v := c) h0 h7 (by omega) (by omega)
  have l3 := first_bounds (z := z) (v := a) h0 h7 (by omega) (by omega)
  have p := pw_pos z
  rw [← e3] at l1
  rw [← e1] at l2
  rw [← e0] at l3
  induction n with
  | zero =>
    intro y out g0 hn hl
    refine Ev_round (fun k => by rw [mapmakerref28_Cover.l0]) (Ev.bind (power_ev h0 h7) ?_)
    refine Ev_neg (by omega) ?_
    rw [show (y1 + 1 - max y y0).toNat = 0 by omega, rows, List.append_nil]
    exact Ev.now _
  | succ n ih =>
    intro y out g0 hn hl
    have m := meets_iff h0 h7 hd.1 hd.2.1 hd.2.2 g0 (show y < pw z by omega)
    have s := span_fits h0 h7 g0 (show y < pw z by omega)
    rw [← e2, ← e3] at m
    refine Ev_round (fun k => by rw [mapmakerref28_Cover.l0]) (Ev.bind (power_ev h0 h7) ?_)
    refine Ev_pos (by omega) ?_
    rw [wrap_in (x := y * sz z) ⟨by omega, by omega⟩, wrap_in (x := y + 1) ⟨by omega, by omega⟩, wrap_in (x := (y + 1) * sz z) ⟨by omega, by omega⟩]
    have skip : ¬ (y0 ≤ y ∧ y ≤ y1) → Ev (fun k => mapmakerref28_Cover.j2 k z out (sz z) y true a b c d) (out ++ rows z x0 (x1 + 1 - x0).toNat (max y y0) (y1 + 1 - max y y0).toNat) := fun hs => by
      refine Ev_round (fun k => by rw [mapmakerref28_Cover.j2, wrap_in (x := y + 1) ⟨by omega, by omega⟩]) (Ev_pos rfl (Ev_eq ?_ (ih (y + 1) out (by omega) (by omega) (by omega))))
      by_cases hx : y < y0
      · rw [show max (y + 1) y0 = max y y0 by omega]
      · rw [show (y1 + 1 - max y y0).toNat = 0 by omega, show (y1 + 1 - max (y + 1) y0).toNat = 0 by omega, rows, rows]
    by_cases t0 : y * sz z > d
    · refine Ev_pos t0 (skip (fun h => ?_))
      have := (m.2 h).1
      omega
    · refine Ev_neg t0 ?_
      by_cases t1 : (y + 1) * sz z < b
      · rw [decide_eq_true t1]
        refine skip (fun h => ?_)
        have := (m.2 h).2
        omega
      · rw [decide_eq_false t1]
        have hm := m.1 ⟨by omega, by omega⟩
        refine Ev_round (fun k => by rw [mapmakerref28_Cover.j2]) (Ev_neg (by decide) (rcov_l1 h0 h7 hb e0 e1 ⟨g0, by omega⟩ (pw z).toNat 0 out (by omega) (by omega) (by omega) ?_))
        rw [wrap_in (x := y + 1) ⟨by omega, by omega⟩, show max 0 x0 = x0 by omega]
        refine Ev_eq ?_ (ih (y + 1) _ (by omega) (by omega) (by rw [List.length_append, length_line]; omega))
        rw [show max y y0 = y by omega, show max (y + 1) y0 = y + 1 by omega, show (y1 + 1 - y).toNat = (y1 + 1 - (y + 1)).toNat + 1 by omega, rows, List.append_assoc]
theorem rcover_ev (a b c d z : Int) : Ev (fun k => mapmakerref28_Cover.f k a b c d z) (cov a b c d z) := by
  refine Ev.congr (fun k => by rw [mapmakerref28_Cover.f, rgcheck_eq, Option.bind_some]) ?_
  unfold cov
  by_cases g : gb a b c d = true
  · rw [if_pos g]
    refine Ev_pos rfl (Ev.bind (rsize_ev z) ?_)
    by_cases hz : 0 ≤ z ∧ z ≤ 7
    · obtain ⟨h0, h7⟩ := hz
      have g' := gb_iff.1 g
      have s := sz_pos h0 h7
      have f0 := first_bounds (z := z) (v := b) h0 h7 (by omega) (by omega)
      have p := pw_pos z
      rw [if_pos ⟨g, h0, h7⟩, show (sz z == 0) = false from beq_eq_false_iff_ne.2 (by omega)]
      refine Ev_round (fun k => by rw [mapmakerref28_Cover.j0]) (Ev_neg (by decide) ?_)
      refine Ev.bind (rsize_ev z) ?_
      have := rcov_l0 h0 h7 ⟨g'.1, g'.2.1, g'.2.2.1⟩ g'.2.2.2 rfl rfl rfl rfl (pw z).toNat 0 [] (by omega) (by omega) (by simp)
      rw [show max 0 (fst z b) = fst z b by omega, List.nil_append, show lst z c + 1 - fst z a = lst z c - fst z a + 1 by omega, show lst z d + 1 - fst z b = lst z d - fst z b + 1 by omega] at this
      exact this
    · have e : sz z = 0 := by
        by_cases h : sz z = 0
        · exact h
        · exact absurd (sz_ne.1 h) hz
      rw [e, if_neg (fun h => hz h.2)]
      refine Ev_round (fun k => by rw [mapmakerref28_Cover.j0]) ?_
      exact Ev_pos rfl (Ev.now _)
  · rw [if_neg g, if_neg (fun h => g h.1)]
    refine Ev_neg (by decide) ?_
    refine Ev_round (fun k => by rw [mapmakerref28_Cover.j0]) ?_
    exact Ev_pos rfl (Ev.now _)
theorem cov_length (a b c d z : Int) : ((cov a b c d z).length : Int) ≤ 20000 := by
  unfold cov
  split
  · rename_i h
    obtain ⟨g, h0, h7⟩ := h
    have g' := gb_iff.1 g
    have f0 := first_bounds (z := z) (v := a) h0 h7 (by omega) (by omega)
    have f1 := last_bounds (z := z) (v := c) h0 h7 (by omega) (by omega)
    have f2 := first_bounds (z := z) (v := b) h0 h7 (by omega) (by omega)
    have f3 := last_bounds (z := z) (v := d) h0 h7 (by omega) (by omega)
    have p := pw_pos z
    rw [length_rows]
    have := Nat.mul_le_mul (show (lst z d - fst z b + 1).toNat ≤ 128 by omega) (show (lst z c - fst z a + 1).toNat ≤ 128 by omega)
    omega
  · simp
end Go.Proofs.Ytdmobbbegdknkaa.Tg
