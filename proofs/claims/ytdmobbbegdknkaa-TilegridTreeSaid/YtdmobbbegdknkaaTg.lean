/- The tiles: Check, Size, Box, Of, Parent, Less, ID and Tile, the program's and the reference's, each comes to one plain function. -/
import Derived.Test.YtdmobbbegdknkaaBas
import Derived.Test.YtdmobbbegdknkaaPAllx4
import Derived.Test.YtdmobbbegdknkaaPAllx5
import Derived.Test.YtdmobbbegdknkaaPAllx15
import Derived.Test.YtdmobbbegdknkaaPAllx20
import Derived.Test.YtdmobbbegdknkaaPAllx24
import Derived.Test.YtdmobbbegdknkaaPAllx32
import Derived.Test.YtdmobbbegdknkaaPAllx29
import Derived.Test.YtdmobbbegdknkaaPAllx16
import Derived.Test.YtdmobbbegdknkaaPAllx17
import Derived.Test.YtdmobbbegdknkaaPAllx28
import Derived.Test.YtdmobbbegdknkaaPAllx10
import Derived.Test.YtdmobbbegdknkaaPAllx11
import Derived.Test.YtdmobbbegdknkaaPAllx21
import Derived.Test.YtdmobbbegdknkaaPAllx22
import Derived.Test.YtdmobbbegdknkaaPAllx26
import Derived.Test.YtdmobbbegdknkaaPAllx37
import Derived.Test.YtdmobbbegdknkaaPAllx40
import Derived.Test.YtdmobbbegdknkaaPAllx41
import Derived.Test.YtdmobbbegdknkaaPAllx38
import Derived.Test.YtdmobbbegdknkaaPAllx3
import Derived.Test.YtdmobbbegdknkaaPAllx23
import Derived.Test.YtdmobbbegdknkaaPAllx7
import Derived.Test.YtdmobbbegdknkaaPAllx25
import Derived.Test.YtdmobbbegdknkaaPAllx13
import Derived.Test.YtdmobbbegdknkaaPAllx18
namespace Go.Proofs.Ytdmobbbegdknkaa.Tg
open Go.RowKit Go.Proofs.Ytdmobbbegdknkaa.PAll Go.Proofs.YtdmobbbegdknkaaW.PrintWords Go.Proofs.YtdmobbbegdknkaaW.PrintLast Go.Proofs.YtdmobbbegdknkaaW.PrintMore Go.Proofs.Ytdmobbbegdknkaa.Bas
set_option linter.unusedVariables false

/-- Tiles in a row of a zoom. -/
def pw (z : Int) : Int := if z = 0 then 1 else if z = 1 then 2 else if z = 2 then 4 else if z = 3 then 8 else if z = 4 then 16 else if z = 5 then 32 else if z = 6 then 64 else 128
/-- Tiles of smaller zooms. -/
def bf (z : Int) : Int := if z = 0 then 0 else if z = 1 then 1 else if z = 2 then 5 else if z = 3 then 21 else if z = 4 then 85 else if z = 5 then 341 else if z = 6 then 1365 else if z = 7 then 5461 else 21845
theorem zs {z : Int} (h0 : 0 ≤ z) (h7 : z ≤ 7) : z = 0 ∨ z = 1 ∨ z = 2 ∨ z = 3 ∨ z = 4 ∨ z = 5 ∨ z = 6 ∨ z = 7 := by omega
theorem pw_pos (z : Int) : 1 ≤ pw z ∧ pw z ≤ 128 := by
  unfold pw
  repeat' split
  all_goals omega
theorem side_eq {z : Int} (h0 : 0 ≤ z) (h7 : z ≤ 7) : tilegrid_side.f z = some (pw z) := by
  rcases zs h0 h7 with h | h | h | h | h | h | h | h <;> subst h <;> decide +kernel
theorem power_ev {z : Int} (h0 : 0 ≤ z) (h7 : z ≤ 7) : Ev (fun k => mapmakerref28_power.f k z) (pw z) := by
  rcases zs h0 h7 with h | h | h | h | h | h | h | h <;> subst h <;> exact Ev.of (mapmakerref28_power.mono _) (k := 20) (by decide +kernel)
theorem before_ev {z : Int} (h0 : 0 ≤ z) (h8 : z ≤ 8) : Ev (fun k => tilegrid_before.f k z) (bf z) := by
  have h : z = 0 ∨ z = 1 ∨ z = 2 ∨ z = 3 ∨ z = 4 ∨ z = 5 ∨ z = 6 ∨ z = 7 ∨ z = 8 := by omega
  rcases h with h | h | h | h | h | h | h | h | h <;> subst h <;> exact Ev.of (tilegrid_before.mono _) (k := 20) (by decide +kernel)
theorem bf_succ {z : Int} (h0 : 0 ≤ z) (h7 : z ≤ 7) : bf (z + 1) = bf z + pw z * pw z := by
  rcases zs h0 h7 with h | h | h | h | h | h | h | h <;> subst h <;> decide +kernel
theorem bf_le {z : Int} : 0 ≤ bf z ∧ bf z ≤ 21845 := by
  unfold bf
  repeat' split
  all_goals omega

/-- It is a tile. -/
def IsTile (z x y : Int) : Prop := 0 ≤ z ∧ z ≤ 7 ∧ 0 ≤ x ∧ x < pw z ∧ 0 ≤ y ∧ y < pw z
instance (z x y : Int) : Decidable (IsTile z x y) := by unfold IsTile; infer_instance
def chk (z x y : Int) : Int := if IsTile z x y then 0 else 16
theorem chk_bad {z x y : Int} (h : ¬ IsTile z x y) : chk z x y = 16 := if_neg h
theorem chk_good {z x y : Int} (h : IsTile z x y) : chk z x y = 0 := if_pos h
theorem chk_zero {z x y : Int} : chk z x y = 0 ↔ IsTile z x y := by
  unfold chk
  split <;> simp [*]
theorem check_eq (z x y : Int) : tilegrid_Check.f z x y = some (chk z x y) := by
  unfold tilegrid_Check.f
  by_cases c0 : z < 0
  · rw [if_pos c0, chk_bad (by unfold IsTile; omega)]
  rw [if_neg c0]
  by_cases c1 : z > 7
  · rw [if_pos c1, chk_bad (by unfold IsTile; omega)]
  rw [if_neg c1]
  by_cases c2 : x < 0
  · rw [if_pos c2, chk_bad (by unfold IsTile; omega)]
  rw [if_neg c2, side_eq (by omega) (by omega), Option.bind_some]
  by_cases c3 : x ≥ pw z
  · rw [if_pos c3, chk_bad (by unfold IsTile; omega)]
  rw [if_neg c3]
  by_cases c4 : y < 0
  · rw [if_pos c4, chk_bad (by unfold IsTile; omega)]
  rw [if_neg c4, Option.bind_some]
  by_cases c5 : y ≥ pw z
  · rw [if_pos c5, chk_bad (by unfold IsTile; omega)]
  · rw [if_neg c5, chk_good (by unfold IsTile; omega)]
theorem rcheck_ev (z x y : Int) : Ev (fun k => mapmakerref28_Check.f k z x y) (chk z x y) := by
  refine Ev.congr (fun k => by rw [mapmakerref28_Check.f]) ?_
  by_cases c0 : z < 0
  · exact Ev_pos c0 (Ev_const (by rw [chk_bad (by unfold IsTile; omega)]))
  refine Ev_neg c0 ?_
  by_cases c1 : z > 7
  · exact Ev_pos c1 (Ev_const (by rw [chk_bad (by unfold IsTile; omega)]))
  refine Ev_neg c1 ?_
  by_cases c2 : x < 0
  · exact Ev_pos c2 (Ev_const (by rw [chk_bad (by unfold IsTile; omega)]))
  refine Ev_neg c2 ?_
  by_cases c4 : y < 0
  · exact Ev_pos c4 (Ev_const (by rw [chk_bad (by unfold IsTile; omega)]))
  refine Ev_neg c4 (Ev.bind (power_ev (by omega) (by omega)) ?_)
  by_cases c3 : x ≥ pw z
  · exact Ev_pos c3 (Ev_const (by rw [chk_bad (by unfold IsTile; omega)]))
  refine Ev_neg c3 (Ev.bind (power_ev (by omega) (by omega)) ?_)
  by_cases c5 : y ≥ pw z
  · exact Ev_pos c5 (Ev_const (by rw [chk_bad (by unfold IsTile; omega)]))
  · exact Ev_neg c5 (Ev_const (by rw [chk_good (by unfold IsTile; omega)]))

/-- The side of the tiles of a zoom. -/
def sz (z : Int) : Int := if z < 0 ∨ z > 7 then 0 else 32768 / pw z
theorem size_eq (z : Int) : tilegrid_Size.f z = some (sz z) := by
  unfold tilegrid_Size.f sz
  by_cases c0 : z < 0
  · rw [if_pos c0, if_pos (Or.inl c0)]
  rw [if_neg c0]
  by_cases c1 : z > 7
  · rw [if_pos c1, if_pos (Or.inr c1)]
  rw [if_neg c1, if_neg (by omega), side_eq (by omega) (by omega), Option.bind_some]
  rcases zs (z := z) (by omega) (by omega) with h | h | h | h | h | h | h | h <;> subst h <;> decide +kernel
theorem rsize_ev (z : Int) : Ev (fun k => mapmakerref28_Size.f k z) (sz z) := by
  refine Ev.congr (fun k => by rw [mapmakerref28_Size.f]) ?_
  unfold sz
  by_cases c0 : z < 0
  · exact Ev_pos c0 (Ev_const (by rw [if_pos (Or.inl c0)]))
  refine Ev_neg c0 ?_
  by_cases c1 : z > 7
  · exact Ev_pos c1 (Ev_const (by rw [if_pos (Or.inr c1)]))
  refine Ev_neg c1 (Ev.bind (power_ev (by omega) (by omega)) ?_)
  have := pw_pos z
  refine Ev_neg (by omega) (Ev_const ?_)
  rw [if_neg (by omega)]
  rcases zs (z := z) (by omega) (by omega) with h | h | h | h | h | h | h | h <;> subst h <;> decide +kernel
/-- What a side is, zoom by zoom. -/
theorem sides {z : Int} (h0 : 0 ≤ z) (h7 : z ≤ 7) : (z = 0 ∧ pw z = 1 ∧ sz z = 32768) ∨ (z = 1 ∧ pw z = 2 ∧ sz z = 16384) ∨ (z = 2 ∧ pw z = 4 ∧ sz z = 8192) ∨ (z = 3 ∧ pw z = 8 ∧ sz z = 4096) ∨ (z = 4 ∧ pw z = 16 ∧ sz z = 2048) ∨ (z = 5 ∧ pw z = 32 ∧ sz z = 1024) ∨ (z = 6 ∧ pw z = 64 ∧ sz z = 512) ∨ (z = 7 ∧ pw z = 128 ∧ sz z = 256) := by
  rcases zs h0 h7 with h | h | h | h | h | h | h | h <;> subst h <;> decide +kernel
theorem sz_ne {z : Int} : sz z ≠ 0 ↔ 0 ≤ z ∧ z ≤ 7 := by
  constructor
  · intro h
    unfold sz at h
    by_cases c : z < 0 ∨ z > 7
    · rw [if_pos c] at h
      exact absurd rfl h
    · omega
  · intro h
    rcases sides h.1 h.2 with k | k | k | k | k | k | k | k <;> omega

/-- Box. -/
def box (z x y : Int) : Int × Int × Int × Int × Int := if IsTile z x y then (wrap64 (x * sz z), wrap64 (y * sz z), wrap64 (wrap64 (x + 1) * sz z), wrap64 (wrap64 (y + 1) * sz z), 0) else (0, 0, 0, 0, 16)
theorem box_eq (z x y : Int) : tilegrid_Box.f z x y = some (box z x y) := by
  unfold tilegrid_Box.f box
  rw [check_eq, Option.bind_some]
  by_cases c : IsTile z x y
  · rw [if_pos (chk_zero.2 c), size_eq, Option.bind_some, if_pos c]
  · have e : chk z x y = 16 := if_neg c
    rw [e, if_neg (by omega), if_neg c]
theorem rbox_ev (z x y : Int) : Ev (fun k => mapmakerref28_Box.f k z x y) (box z x y) := by
  refine Ev.congr (fun k => by rw [mapmakerref28_Box.f]) (Ev.bind (rcheck_ev z x y) ?_)
  unfold box
  by_cases c : IsTile z x y
  · exact Ev_pos (chk_zero.2 c) (Ev.bind (rsize_ev z) (Ev_const (by rw [if_pos c])))
  · have e : chk z x y = 16 := if_neg c
    rw [e]
    exact Ev_neg (by omega) (Ev_const (by rw [if_neg c]))
/-- A grid point. -/
def pt (x y : Int) : Bool := decide (0 ≤ x ∧ x < 32768 ∧ 0 ≤ y ∧ y < 32768)
theorem valid_eq (x y : Int) : grid_Valid.f x y = some (pt x y) := by
  unfold grid_Valid.f pt
  repeat' split
  all_goals (apply congrArg some; rw [Bool.eq_iff_iff]; simp; omega)
theorem rvalid_eq (x y : Int) : mapmakerref08_Valid.f x y = some (pt x y) := by
  unfold mapmakerref08_Valid.f pt
  repeat' split
  all_goals (apply congrArg some; rw [Bool.eq_iff_iff]; simp; omega)
/-- Of. -/
def tof (x y z : Int) : Int × Int × Int × Int := if pt x y = true then (if sz z = 0 then (0, 0, 0, 2) else (z, wrap64 (Int.tdiv x (sz z)), wrap64 (Int.tdiv y (sz z)), 0)) else (0, 0, 0, 11)
theorem of_eq (x y z : Int) : tilegrid_Of.f x y z = some (tof x y z) := by
  unfold tilegrid_Of.f tof
  rw [size_eq, Option.bind_some, valid_eq, Option.bind_some]
  repeat' split
  all_goals rfl
theorem rof_ev (x y z : Int) : Ev (fun k => mapmakerref28_Of.f k x y z) (tof x y z) := by
  refine Ev.congr (fun k => by rw [mapmakerref28_Of.f, rvalid_eq, Option.bind_some]) ?_
  unfold tof
  refine Ev_ite (fun _ => Ev.bind (rsize_ev z) ?_) (fun _ => Ev.now _)
  refine Ev_ite (fun _ => Ev.now _) (fun h => Ev.bind (rsize_ev z) (Ev_neg h (Ev.bind (rsize_ev z) (Ev_neg h (Ev.now _)))))
/-- Parent. -/
def par (z x y : Int) : Int × Int × Int × Bool := if IsTile z x y ∧ z ≠ 0 then (wrap64 (z - 1), wrap64 (Int.tdiv x 2), wrap64 (Int.tdiv y 2), true) else (0, 0, 0, false)
theorem par_eq (z x y : Int) : tilegrid_Parent.f z x y = some (par z x y) := by
  unfold tilegrid_Parent.f par
  rw [check_eq, Option.bind_some]
  by_cases c : IsTile z x y
  · rw [if_pos (chk_zero.2 c)]
    by_cases d : z = 0
    · rw [if_pos d, if_neg (fun h => h.2 d)]
    · rw [if_neg d, if_pos ⟨c, d⟩]
  · rw [if_neg (fun h => c (chk_zero.1 h)), if_neg (fun h => c h.1)]
theorem rpar_ev (z x y : Int) : Ev (fun k => mapmakerref28_Parent.f k z x y) (par z x y) := by
  refine Ev.congr (fun k => by rw [mapmakerref28_Parent.f]) (Ev.bind (rcheck_ev z x y) ?_)
  unfold par
  by_cases c : IsTile z x y
  · refine Ev_pos (chk_zero.2 c) ?_
    by_cases d : z = 0
    · exact Ev_pos d (Ev_const (by rw [if_neg (fun h => h.2 d)]))
    · exact Ev_neg d (Ev_const (by rw [if_pos ⟨c, d⟩]))
  · exact Ev_neg (fun h => c (chk_zero.1 h)) (Ev_const (by rw [if_neg (fun h => c h.1)]))
/-- Less. -/
def less (z x y w u v : Int) : Bool := decide (z < w ∨ z = w ∧ (y < v ∨ y = v ∧ x < u))
theorem less_eq (z x y w u v : Int) : tilegrid_Less.f z x y w u v = some (less z x y w u v) := by
  unfold tilegrid_Less.f less
  repeat' split
  all_goals (apply congrArg some; rw [Bool.eq_iff_iff]; simp at *; omega)
theorem rless_eq (z x y w u v : Int) : mapmakerref28_Less.f z x y w u v = some (less z x y w u v) := by
  unfold mapmakerref28_Less.f less
  repeat' split
  all_goals (apply congrArg some; rw [Bool.eq_iff_iff]; simp at *; omega)

/-- ID. -/
def idn (z x y : Int) : Int := if IsTile z x y then bf z + y * pw z + x else -1
theorem row_fits {z x y : Int} (h : IsTile z x y) : 0 ≤ y * pw z ∧ y * pw z + x < pw z * pw z := by
  obtain ⟨h0, h7, h1, h2, h3, h4⟩ := h
  rcases sides h0 h7 with k | k | k | k | k | k | k | k <;> obtain ⟨_, k, _⟩ := k <;> rw [k] at h2 h4 ⊢ <;> omega
theorem sq_le (z : Int) : pw z * pw z ≤ 16384 := by
  have h := pw_pos z
  have := Int.mul_le_mul h.2 h.2 (by omega) (by omega)
  omega
theorem id_ev (z x y : Int) : Ev (fun k => tilegrid_ID.f k z x y) (idn z x y) := by
  refine Ev.congr (fun k => by rw [tilegrid_ID.f, check_eq, Option.bind_some]) ?_
  unfold idn
  by_cases c : IsTile z x y
  · refine Ev_pos (chk_zero.2 c) (Ev.bind (before_ev c.1 (by have := c.2.1; omega)) (Ev_const ?_))
    rw [side_eq c.1 c.2.1, Option.bind_some, if_pos c]
    have h := row_fits c
    have h1 := sq_le z
    have h2 := bf_le (z := z)
    have h3 := c.2.2.1
    rw [wrap_in (x := y * pw z) ⟨by omega, by omega⟩, wrap_in (x := bf z + y * pw z) ⟨by omega, by omega⟩, wrap_in ⟨by omega, by omega⟩]
  · exact Ev_neg (fun h => c (chk_zero.1 h)) (Ev_const (by rw [if_neg c]))
theorem rid_l0 {z x y : Int} (c : IsTile z x y) (n : Nat) : ∀ (i : Int), 0 ≤ i → i ≤ z → z - i = n → Ev (fun k => mapmakerref28_ID.l0 k (bf i) i z x y) (bf z + y * pw z + x) := by
  have h := row_fits c
  have h1 := sq_le z
  have h2 := bf_le (z := z)
  have h3 := c.2.2.1
  have h7 := c.2.1
  induction n with
  | zero =>
    intro i g0 g1 gn
    refine Ev_round (fun k => by rw [mapmakerref28_ID.l0]) (Ev_neg (by omega) (Ev.bind (power_ev c.1 c.2.1) (Ev_const ?_)))
    have e : i = z := by omega
    rw [e, wrap_in (x := y * pw z) ⟨by omega, by omega⟩, wrap_in (x := bf z + y * pw z) ⟨by omega, by omega⟩, wrap_in ⟨by omega, by omega⟩]
  | succ n ih =>
    intro i g0 g1 gn
    refine Ev_round (fun k => by rw [mapmakerref28_ID.l0]) (Ev_pos (by omega) (Ev.bind (power_ev g0 (by omega)) (Ev.bind (power_ev g0 (by omega)) ?_)))
    have s := sq_le i
    have p := pw_pos i
    have s0 : 0 ≤ pw i * pw i := Int.mul_nonneg (by omega) (by omega)
    have b := bf_le (z := i)
    rw [wrap_in (x := pw i * pw i) ⟨by omega, by omega⟩, wrap_in (x := bf i + pw i * pw i) ⟨by omega, by omega⟩, wrap_in (x := i + 1) ⟨by omega, by omega⟩, ← bf_succ g0 (by omega)]
    exact ih (i + 1) (by omega) (by omega) (by omega)
theorem rid_ev (z x y : Int) : Ev (fun k => mapmakerref28_ID.f k z x y) (idn z x y) := by
  refine Ev.congr (fun k => by rw [mapmakerref28_ID.f]) (Ev.bind (rcheck_ev z x y) ?_)
  unfold idn
  by_cases c : IsTile z x y
  · refine Ev_pos (chk_zero.2 c) (Ev_eq (by rw [if_pos c]) (rid_l0 c z.toNat 0 (by omega) c.1 (by have := c.1; omega)))
  · exact Ev_neg (fun h => c (chk_zero.1 h)) (Ev_const (by rw [if_neg c]))

/-- Tile, from the zoom 8 - n on. -/
def tlf (i : Int) : Nat → Int × Int × Int × Bool
  | 0 => (0, 0, 0, false)
  | n + 1 => if i < bf (8 - (n + 1 : Nat) + 1) then (8 - (n + 1 : Nat), (i - bf (8 - (n + 1 : Nat))) % pw (8 - (n + 1 : Nat)), (i - bf (8 - (n + 1 : Nat))) / pw (8 - (n + 1 : Nat)), true) else tlf i n
def til (i : Int) : Int × Int × Int × Bool := if i < 0 then (0, 0, 0, false) else tlf i 8
theorem tile_l0 {i : Int} (hi : IsI i) (n : Nat) : ∀ (z : Int), 0 ≤ z → z ≤ 8 → 8 - z = n → bf z ≤ i → Ev (fun k => tilegrid_Tile.l0 k i z) (tlf i n) := by
  induction n with
  | zero =>
    intro z h0 h1 hn hb
    refine Ev_round (fun k => by rw [tilegrid_Tile.l0]) (Ev_neg (by omega) ?_)
    rw [tlf]
    exact Ev.now _
  | succ n ih =>
    intro z h0 h1 hn hb
    have hz : z = 8 - ((n + 1 : Nat) : Int) := by omega
    have b := bf_le (z := z)
    have p := pw_pos z
    have hi2 := hi.2
    refine Ev_round (fun k => by rw [tilegrid_Tile.l0, wrap_in (x := z + 1) ⟨by omega, by omega⟩]) (Ev_pos (by omega) (Ev.bind (before_ev (z := z + 1) (by omega) (by omega)) ?_))
    unfold tlf
    rw [← hz]
    refine Ev_ite (fun _ => Ev.bind (before_ev h0 h1) (Ev_const ?_)) (fun hc => ih (z + 1) (by omega) (by omega) (by omega) (by omega))
    rw [side_eq h0 (by omega), Option.bind_some, if_neg (by omega), Option.bind_some, if_neg (by omega), wrap_in (x := i - bf z) ⟨by omega, by omega⟩, tmod_nn (by omega), tdiv_nn (by omega)]
    have d0 : 0 ≤ (i - bf z) / pw z := Int.ediv_nonneg (by omega) (by omega)
    have d1 : (i - bf z) / pw z ≤ i - bf z := Int.ediv_le_self _ (by omega)
    rw [wrap_in ⟨by omega, by omega⟩]
theorem tile_ev {i : Int} (hi : IsI i) : Ev (fun k => tilegrid_Tile.f k i) (til i) := by
  refine Ev.congr (fun k => by rw [tilegrid_Tile.f]) ?_
  unfold til
  refine Ev_ite (fun _ => Ev.now _) (fun h => tile_l0 hi 8 0 (by omega) (by omega) (by omega) ?_)
  have : bf 0 = 0 := rfl
  omega
theorem rtile_l0 {i : Int} (hi : IsI i) (n : Nat) : ∀ (z : Int), 0 ≤ z → z ≤ 8 → 8 - z = n → bf z ≤ i → Ev (fun k => mapmakerref28_Tile.l0 k (i - bf z) z) (tlf i n) := by
  induction n with
  | zero =>
    intro z h0 h1 hn hb
    refine Ev_round (fun k => by rw [mapmakerref28_Tile.l0]) (Ev_neg (by omega) ?_)
    rw [tlf]
    exact Ev.now _
  | succ n ih =>
    intro z h0 h1 hn hb
    have hz : z = 8 - ((n + 1 : Nat) : Int) := by omega
    have b := bf_le (z := z)
    have p := pw_pos z
    have hi2 := hi.2
    have s := sq_le z
    have s0 : 0 ≤ pw z * pw z := Int.mul_nonneg (by omega) (by omega)
    have hs := bf_succ h0 (show z ≤ 7 by omega)
    refine Ev_round (fun k => by rw [mapmakerref28_Tile.l0]) (Ev_pos (by omega) (Ev.bind (power_ev h0 (by omega)) (Ev.bind (power_ev h0 (by omega)) ?_)))
    unfold tlf
    rw [← hz, wrap_in (x := pw z * pw z) ⟨by omega, by omega⟩]
    by_cases hc : i < bf (z + 1)
    · rw [if_pos hc]
      refine Ev_pos (by omega) (Ev.bind (power_ev h0 (by omega)) (Ev_neg (by omega) (Ev.bind (power_ev h0 (by omega)) (Ev_neg (by omega) (Ev_const ?_)))))
      have d0 : 0 ≤ (i - bf z) / pw z := Int.ediv_nonneg (by omega) (by omega)
      have d1 : (i - bf z) / pw z ≤ i - bf z := Int.ediv_le_self _ (by omega)
      rw [tmod_nn (by omega), tdiv_nn (by omega), wrap_in ⟨by omega, by omega⟩]
    · rw [if_neg hc]
      refine Ev_neg (by omega) (Ev.bind (power_ev h0 (by omega)) (Ev.bind (power_ev h0 (by omega)) ?_))
      rw [wrap_in (x := pw z * pw z) ⟨by omega, by omega⟩, wrap_in (x := i - bf z - pw z * pw z) ⟨by omega, by omega⟩, wrap_in (x := z + 1) ⟨by omega, by omega⟩, show i - bf z - pw z * pw z = i - bf (z + 1) by omega]
      exact ih (z + 1) (by omega) (by omega) (by omega) (by omega)
theorem rtile_ev {i : Int} (hi : IsI i) : Ev (fun k => mapmakerref28_Tile.f k i) (til i) := by
  refine Ev.congr (fun k => by rw [mapmakerref28_Tile.f]) ?_
  unfold til
  have hb : bf 0 = 0 := rfl
  refine Ev_ite (fun _ => Ev.now _) (fun h => Ev_eq rfl (Ev.congr (fun k => ?_) (rtile_l0 hi 8 0 (by omega) (by omega) (by omega) (by omega))))
  rw [hb, show i - 0 = i by omega]
theorem same_l0 (l : List S30) (hl : (l.length : Int) ≤ 20000) (n : Nat) : ∀ (i : Int), 0 ≤ i → i ≤ (l.length : Int) → (l.length : Int) - i = n → Ev (fun k => mapmakerref28_Same.l0 k l l i) true := by
  induction n with
  | zero =>
    intro i h0 h1 hn
    refine Ev_round (fun k => by rw [mapmakerref28_Same.l0]) (Ev_neg (by omega) ?_)
    exact Ev.now _
  | succ n ih =>
    intro i h0 h1 hn
    refine Ev_round (fun k => by rw [mapmakerref28_Same.l0]) (Ev_pos (by omega) (Ev_pos h0 (Ev_pos (by omega) (Ev_neg (by simp) ?_))))
    rw [wrap_in (x := i + 1) ⟨by omega, by omega⟩]
    exact ih (i + 1) (by omega) (by omega) (by omega)
theorem same_ev (l : List S30) (hl : (l.length : Int) ≤ 20000) : Ev (fun k => mapmakerref28_Same.f k l l) true :=
  Ev.congr (fun k => by rw [mapmakerref28_Same.f]) (Ev_pos rfl (same_l0 l hl l.length 0 (by omega) (by omega) (by omega)))
theorem lives_ev : Ev (fun k => mapmakerlaw28_lives.f k) true := Ev.of mapmakerlaw28_lives.mono (k := 200) (by decide +kernel)
end Go.Proofs.Ytdmobbbegdknkaa.Tg
