/- The children of a tile have it as their parent, are in increasing order, and their boxes cover its box: for any tile. -/
import Derived.Test.YtdmobbbegdknkaaTg
import Derived.Test.YtdmobbbegdknkaaPAllx34
import Derived.Test.YtdmobbbegdknkaaPAllx35
import Derived.Test.YtdmobbbegdknkaaPAllx36
namespace Go.Proofs.Ytdmobbbegdknkaa.Pure
open Go.RowKit Go.Proofs.Ytdmobbbegdknkaa.PAll Go.Proofs.YtdmobbbegdknkaaW.PrintWords Go.Proofs.YtdmobbbegdknkaaW.PrintLast Go.Proofs.YtdmobbbegdknkaaW.PrintMore Go.Proofs.Ytdmobbbegdknkaa.Bas Go.Proofs.Ytdmobbbegdknkaa.Tg
set_option linter.unusedVariables false

/-- Children. -/
def kin (z x y : Int) : List S30 := if IsTile z x y ∧ z ≠ 7 then [⟨z + 1, 2 * x, 2 * y⟩, ⟨z + 1, 2 * x + 1, 2 * y⟩, ⟨z + 1, 2 * x, 2 * y + 1⟩, ⟨z + 1, 2 * x + 1, 2 * y + 1⟩] else []
theorem kin_length (z x y : Int) : ((kin z x y).length : Int) ≤ 20000 := by
  unfold kin
  split <;> simp
theorem good_small {z x y : Int} (h : IsTile z x y) : 0 ≤ z ∧ z ≤ 7 ∧ 0 ≤ x ∧ x ≤ 127 ∧ 0 ≤ y ∧ y ≤ 127 := by
  have p := pw_pos z
  unfold IsTile at h
  omega
theorem kids_l0 {z x y : Int} (h : IsTile z x y) : Ev (fun k => tilegrid_Children.l0 k [] 0 z x y) [⟨z + 1, 2 * x, 2 * y⟩, ⟨z + 1, 2 * x + 1, 2 * y⟩, ⟨z + 1, 2 * x, 2 * y + 1⟩, ⟨z + 1, 2 * x + 1, 2 * y + 1⟩] := by
  have s := good_small h
  have w0 : wrap64 (0 + 1) = 1 := by decide +kernel
  have w1 : wrap64 (1 + 1) = 2 := by decide +kernel
  have ex0 : wrap64 (wrap64 (2 * x) + 0) = 2 * x := by rw [wrap_in (x := 2 * x) ⟨by omega, by omega⟩, wrap_in ⟨by omega, by omega⟩]; omega
  have ex1 : wrap64 (wrap64 (2 * x) + 1) = 2 * x + 1 := by rw [wrap_in (x := 2 * x) ⟨by omega, by omega⟩, wrap_in ⟨by omega, by omega⟩]
  have ey0 : wrap64 (wrap64 (2 * y) + 0) = 2 * y := by rw [wrap_in (x := 2 * y) ⟨by omega, by omega⟩, wrap_in ⟨by omega, by omega⟩]; omega
  have ey1 : wrap64 (wrap64 (2 * y) + 1) = 2 * y + 1 := by rw [wrap_in (x := 2 * y) ⟨by omega, by omega⟩, wrap_in ⟨by omega, by omega⟩]
  have ez : wrap64 (z + 1) = z + 1 := wrap_in ⟨by omega, by omega⟩
  refine Ev_round (fun k => by rw [tilegrid_Children.l0]) (Ev_pos (by decide) ?_)
  refine Ev_round (fun k => by rw [tilegrid_Children.l1, w0, ex0, ey0, ez]) (Ev_pos (by decide) (Ev_pos (by decide) ?_))
  refine Ev_round (fun k => by rw [tilegrid_Children.l1, w1, ex1, ey0, ez]) (Ev_pos (by decide) (Ev_pos (by simp) ?_))
  refine Ev_round (fun k => by rw [tilegrid_Children.l1, w0]) (Ev_neg (by decide) ?_)
  refine Ev_round (fun k => by rw [tilegrid_Children.l0]) (Ev_pos (by decide) ?_)
  refine Ev_round (fun k => by rw [tilegrid_Children.l1, w0, ex0, ey1, ez]) (Ev_pos (by decide) (Ev_pos (by simp) ?_))
  refine Ev_round (fun k => by rw [tilegrid_Children.l1, w1, ex1, ey1, ez]) (Ev_pos (by decide) (Ev_pos (by simp) ?_))
  refine Ev_round (fun k => by rw [tilegrid_Children.l1, w1]) (Ev_neg (by decide) ?_)
  refine Ev_round (fun k => by rw [tilegrid_Children.l0]) (Ev_neg (by decide) ?_)
  exact Ev_const (by simp)
theorem kids_ev (z x y : Int) : Ev (fun k => tilegrid_Children.f k z x y) (kin z x y) := by
  refine Ev.congr (fun k => by rw [tilegrid_Children.f, check_eq, Option.bind_some]) ?_
  unfold kin
  by_cases g : IsTile z x y
  · refine Ev_pos (chk_zero.2 g) ?_
    by_cases c : z = 7
    · rw [if_neg (fun h => h.2 c), show (z == 7) = true from beq_iff_eq.2 c]
      refine Ev_round (fun k => by rw [tilegrid_Children.j0]) ?_
      exact Ev_pos rfl (Ev.now _)
    · rw [if_pos ⟨g, c⟩, show (z == 7) = false from beq_eq_false_iff_ne.2 c]
      refine Ev_round (fun k => by rw [tilegrid_Children.j0]) ?_
      exact Ev_neg (by decide) (kids_l0 g)
  · rw [if_neg (fun h => g h.1)]
    refine Ev_neg (fun h => g (chk_zero.1 h)) ?_
    refine Ev_round (fun k => by rw [tilegrid_Children.j0]) ?_
    exact Ev_pos rfl (Ev.now _)
theorem fin_ev : Ev (fun k => (mapmakerlaw28_lives.f k).bind fun t => some t) true := Ev.bind lives_ev (Ev.now _)
def gd (a b c d : Int) : Bool := decide (0 ≤ a ∧ a ≤ c ∧ c ≤ 32768 ∧ 0 ≤ b ∧ b ≤ d ∧ d ≤ 32768)
theorem rgd_eq (a b c d : Int) : mapmakerref08_Good.f a b c d = some (gd a b c d) := by
  unfold mapmakerref08_Good.f gd
  repeat' split
  all_goals (apply congrArg some; rw [Bool.eq_iff_iff]; simp; omega)
theorem join_in {a b c d a' b' c' d' : Int} (h : 0 ≤ a ∧ a ≤ a' ∧ a' ≤ c' ∧ c' ≤ c ∧ c ≤ 32768) (k : 0 ≤ b ∧ b ≤ b' ∧ b' ≤ d' ∧ d' ≤ d ∧ d ≤ 32768) : mapmakerref08_Join.f a b c d a' b' c' d' = some (a, b, c, d) := by
  unfold mapmakerref08_Join.f
  rw [rgd_eq, Option.bind_some, if_pos (show gd a b c d = true from decide_eq_true ⟨by omega, by omega, by omega, by omega, by omega, by omega⟩), rgd_eq, Option.bind_some, if_pos (show gd a' b' c' d' = true from decide_eq_true ⟨by omega, by omega, by omega, by omega, by omega, by omega⟩), mn_eq, mn_eq, mx_eq, mx_eq]
  rw [Int.min_eq_left (by omega), Int.min_eq_left (by omega), Int.max_eq_left (by omega), Int.max_eq_left (by omega)]
theorem fits {z x : Int} (h0 : 0 ≤ z) (h7 : z ≤ 7) (x0 : 0 ≤ x) (xp : x < pw z) : 0 ≤ x * sz z ∧ x * sz z ≤ 32768 ∧ 0 ≤ (x + 1) * sz z ∧ (x + 1) * sz z ≤ 32768 := by
  rcases sides h0 h7 with k | k | k | k | k | k | k | k <;> obtain ⟨_, k1, k⟩ := k <;> rw [k1] at xp <;> rw [k] <;> omega
theorem box_in {z x y : Int} (g : IsTile z x y) : box z x y = (x * sz z, y * sz z, (x + 1) * sz z, (y + 1) * sz z, 0) := by
  have s := good_small g
  have q0 := fits g.1 g.2.1 g.2.2.1 g.2.2.2.1
  have q1 := fits g.1 g.2.1 g.2.2.2.2.1 g.2.2.2.2.2
  unfold box
  rw [if_pos g, wrap_in (x := x * sz z) ⟨by omega, by omega⟩, wrap_in (x := y * sz z) ⟨by omega, by omega⟩, wrap_in (x := x + 1) ⟨by omega, by omega⟩, wrap_in (x := y + 1) ⟨by omega, by omega⟩, wrap_in (x := (x + 1) * sz z) ⟨by omega, by omega⟩, wrap_in (x := (y + 1) * sz z) ⟨by omega, by omega⟩]
theorem halves {z : Int} (h0 : 0 ≤ z) (h7 : z < 7) : pw (z + 1) = 2 * pw z ∧ sz z = 2 * sz (z + 1) ∧ 256 ≤ sz (z + 1) ∧ sz (z + 1) ≤ 16384 := by
  have h : z = 0 ∨ z = 1 ∨ z = 2 ∨ z = 3 ∨ z = 4 ∨ z = 5 ∨ z = 6 := by omega
  rcases h with h | h | h | h | h | h | h <;> subst h <;> decide +kernel
theorem child {z x y cx cy : Int} (g : IsTile z x y) (h7 : z < 7) (hx : cx = 2 * x ∨ cx = 2 * x + 1) (hy : cy = 2 * y ∨ cy = 2 * y + 1) : IsTile (z + 1) cx cy := by
  have s := halves g.1 h7
  obtain ⟨h0, _, h1, h2, h3, h4⟩ := g
  exact ⟨by omega, by omega, by omega, by omega, by omega, by omega⟩
theorem half {z x cx : Int} (h0 : 0 ≤ z) (h7 : z < 7) (x0 : 0 ≤ x) (xp : x < pw z) (hx : cx = 2 * x ∨ cx = 2 * x + 1) :
    (0 ≤ x * sz z ∧ x * sz z ≤ cx * sz (z + 1) ∧ cx * sz (z + 1) ≤ (cx + 1) * sz (z + 1) ∧ (cx + 1) * sz (z + 1) ≤ (x + 1) * sz z ∧ (x + 1) * sz z ≤ 32768) ∧ (cx + 1) * sz (z + 1) - cx * sz (z + 1) = sz (z + 1) ∧ (x + 1) * sz z - x * sz z = 2 * sz (z + 1) := by
  obtain ⟨e1, e2, e3, e4⟩ := halves h0 h7
  have f := fits h0 (by omega) x0 xp
  have a0 : x * sz z = 2 * (x * sz (z + 1)) := by rw [e2, ← Int.mul_assoc, Int.mul_comm x 2, Int.mul_assoc]
  have a1 : (x + 1) * sz z = 2 * (x * sz (z + 1)) + 2 * sz (z + 1) := by rw [Int.add_mul, Int.one_mul, a0, e2]
  have a2 : (cx + 1) * sz (z + 1) = cx * sz (z + 1) + sz (z + 1) := by rw [Int.add_mul, Int.one_mul]
  rcases hx with h | h
  · have a3 : cx * sz (z + 1) = 2 * (x * sz (z + 1)) := by rw [h, Int.mul_assoc]
    omega
  · have a3 : cx * sz (z + 1) = 2 * (x * sz (z + 1)) + sz (z + 1) := by rw [h, Int.add_mul, Int.one_mul, Int.mul_assoc]
    omega
theorem par_in {z x y cx cy : Int} (g : IsTile z x y) (h7 : z < 7) (hx : cx = 2 * x ∨ cx = 2 * x + 1) (hy : cy = 2 * y ∨ cy = 2 * y + 1) : par (z + 1) cx cy = (z, x, y, true) := by
  have s := good_small g
  unfold par
  rw [if_pos ⟨child g h7 hx hy, by omega⟩, wrap_in (x := z + 1 - 1) ⟨by omega, by omega⟩, tdiv_nn (show 0 ≤ cx by omega), tdiv_nn (show 0 ≤ cy by omega), wrap_in (x := cx / 2) ⟨by omega, by omega⟩, wrap_in (x := cy / 2) ⟨by omega, by omega⟩, show z + 1 - 1 = z by omega, show cx / 2 = x by omega, show cy / 2 = y by omega]
theorem round {z x y cx cy i area : Int} {l : List S30} {r : Bool} (g : IsTile z x y) (h7 : z < 7) (hl : (l.length : Int) = 4) (h0 : 0 ≤ i) (h1 : i < 4) (hc : rd_T30 l i = ⟨z + 1, cx, cy⟩) (hx : cx = 2 * x ∨ cx = 2 * x + 1) (hy : cy = 2 * y ∨ cy = 2 * y + 1)
    (hless : i > 0 → less (rd_T30 l (i - 1)).f0 (rd_T30 l (i - 1)).f1 (rd_T30 l (i - 1)).f2 (z + 1) cx cy = true) (ha : 0 ≤ area ∧ area ≤ 805306368)
    (next : Ev (fun k => mapmakerlaw28_TilegridTree.l0 k l (area + sz (z + 1) * sz (z + 1)) (i + 1) z x y (x * sz z) (y * sz z) ((x + 1) * sz z) ((y + 1) * sz z)) r) :
    Ev (fun k => mapmakerlaw28_TilegridTree.l0 k l area i z x y (x * sz z) (y * sz z) ((x + 1) * sz z) ((y + 1) * sz z)) r := by
  obtain ⟨_, e2, e3, e4⟩ := halves g.1 h7
  obtain ⟨p0, p1, _⟩ := half g.1 h7 g.2.2.1 g.2.2.2.1 hx
  obtain ⟨q0, q1, _⟩ := half g.1 h7 g.2.2.2.2.1 g.2.2.2.2.2 hy
  have m := Int.mul_le_mul e4 e4 (by omega) (show (0 : Int) ≤ 16384 by omega)
  have m0 : 0 ≤ sz (z + 1) * sz (z + 1) := Int.mul_nonneg (by omega) (by omega)
  have j := join_in p0 q0
  refine Ev_round (fun k => by rw [mapmakerlaw28_TilegridTree.l0, hc]) (Ev_pos (by omega) (Ev_pos h0 ?_))
  refine Ev.congr (fun k => by rw [par_eq, Option.bind_some, box_eq, Option.bind_some, par_in g h7 hx hy, box_in (child g h7 hx hy)]) ?_
  refine Ev_pos rfl (Ev_neg (by simp) (Ev_pos rfl ?_))
  have step : Ev (fun k => (mapmakerref08_Join.f (x * sz z) (y * sz z) ((x + 1) * sz z) ((y + 1) * sz z) (cx * sz (z + 1)) (cy * sz (z + 1)) ((cx + 1) * sz (z + 1)) ((cy + 1) * sz (z + 1))).bind fun b => (if (!(b.1 == x * sz z) || (!(b.2.1 == y * sz z) || (!(b.2.2.1 == (x + 1) * sz z) || (!(b.2.2.2 == (y + 1) * sz z))))) = true then none else mapmakerlaw28_TilegridTree.l0 k l (wrap64 (area + wrap64 (wrap64 ((cx + 1) * sz (z + 1) - cx * sz (z + 1)) * wrap64 ((cy + 1) * sz (z + 1) - cy * sz (z + 1))))) (wrap64 (i + 1)) z x y (x * sz z) (y * sz z) ((x + 1) * sz z) ((y + 1) * sz z))) r := by
    refine Ev.congr (fun k => by rw [j, Option.bind_some]) (Ev_neg (by simp) ?_)
    rw [p1, q1, wrap_in (x := sz (z + 1)) ⟨by omega, by omega⟩, wrap_in (x := sz (z + 1) * sz (z + 1)) ⟨by omega, by omega⟩, wrap_in (x := area + sz (z + 1) * sz (z + 1)) ⟨by omega, by omega⟩, wrap_in (x := i + 1) ⟨by omega, by omega⟩]
    exact next
  by_cases c : i > 0
  · have w : wrap64 (i - 1) = i - 1 := wrap_in ⟨by omega, by omega⟩
    refine Ev_pos c (Ev.congr (fun k => by rw [w, less_eq, Option.bind_some, hless c]) (Ev_pos (by omega) (Ev_pos (by omega) (Ev_pos rfl step))))
  · exact Ev_neg c step
theorem TilegridTree : mapmakerlaw28_TilegridTree.Pure := by
  intro z x y _
  refine Ev.rounds (Ev.congr (fun k => by rw [mapmakerlaw28_TilegridTree.f]) (Ev.bind (kids_ev z x y) (Ev.congr (fun k => by rw [box_eq, Option.bind_some]) ?_)))
  by_cases g : IsTile z x y
  · rw [box_in g]
    refine Ev_pos rfl ?_
    by_cases c : z = 7
    · have e : kin z x y = [] := if_neg (fun h => h.2 c)
      rw [e]
      refine Ev_round (fun k => by rw [mapmakerlaw28_TilegridTree.j0]) ?_
      exact Ev_pos rfl (Ev_pos rfl (Ev_pos rfl (Ev_pos c fin_ev)))
    · have e : kin z x y = [⟨z + 1, 2 * x, 2 * y⟩, ⟨z + 1, 2 * x + 1, 2 * y⟩, ⟨z + 1, 2 * x, 2 * y + 1⟩, ⟨z + 1, 2 * x + 1, 2 * y + 1⟩] := if_pos ⟨g, c⟩
      have h7 : z < 7 := by have := g.2.1; omega
      have s := good_small g
      obtain ⟨_, e2, e3, e4⟩ := halves g.1 h7
      obtain ⟨_, _, p2⟩ := half (cx := 2 * x) g.1 h7 g.2.2.1 g.2.2.2.1 (Or.inl rfl)
      obtain ⟨_, _, q2⟩ := half (cx := 2 * y) g.1 h7 g.2.2.2.2.1 g.2.2.2.2.2 (Or.inl rfl)
      have m := Int.mul_le_mul e4 e4 (by omega) (show (0 : Int) ≤ 16384 by omega)
      have m0 : 0 ≤ sz (z + 1) * sz (z + 1) := Int.mul_nonneg (by omega) (by omega)
      rw [e]
      refine Ev_round (fun k => by rw [mapmakerlaw28_TilegridTree.j0]) ?_
      refine Ev_neg (by simp) ?_
      refine round (i := 0) g h7 rfl (by omega) (by omega) rfl (Or.inl rfl) (Or.inl rfl) (fun h => absurd h (by omega)) (by omega) ?_
      refine round (i := 1) g h7 rfl (by omega) (by omega) rfl (Or.inr rfl) (Or.inl rfl) (fun h => decide_eq_true (Or.inr ⟨rfl, Or.inr ⟨rfl, show 2 * x < 2 * x + 1 by omega⟩⟩)) (by omega) ?_
      refine round (i := 2) g h7 rfl (by omega) (by omega) rfl (Or.inl rfl) (Or.inr rfl) (fun h => decide_eq_true (Or.inr ⟨rfl, Or.inl (show 2 * y < 2 * y + 1 by omega)⟩)) (by omega) ?_
      refine round (i := 3) g h7 rfl (by omega) (by omega) rfl (Or.inr rfl) (Or.inr rfl) (fun h => decide_eq_true (Or.inr ⟨rfl, Or.inr ⟨rfl, show 2 * x < 2 * x + 1 by omega⟩⟩)) (by omega) ?_
      refine Ev_round (fun k => by rw [mapmakerlaw28_TilegridTree.l0]) ?_
      refine Ev_neg (by simp) ?_
      refine Ev_pos rfl ?_
      refine Ev_pos ?_ fin_ev
      rw [p2, q2, wrap_in (x := 2 * sz (z + 1)) ⟨by omega, by omega⟩]
      have w : 2 * sz (z + 1) * (2 * sz (z + 1)) = 4 * (sz (z + 1) * sz (z + 1)) := by
        rw [Int.mul_assoc, Int.mul_left_comm (sz (z + 1)) 2, ← Int.mul_assoc]
        rfl
      rw [w, wrap_in (x := 4 * (sz (z + 1) * sz (z + 1))) ⟨by omega, by omega⟩]
      omega
  · have e : kin z x y = [] := if_neg (fun h => g h.1)
    have eb : box z x y = (0, 0, 0, 0, 16) := if_neg g
    rw [e, eb]
    refine Ev_neg (by decide) ?_
    refine Ev_round (fun k => by rw [mapmakerlaw28_TilegridTree.j0]) ?_
    exact Ev_pos rfl (Ev_pos rfl (Ev_neg (by decide) fin_ev))
end Go.Proofs.Ytdmobbbegdknkaa.Pure
