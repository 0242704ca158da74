/- Pick's theorem, plainly: turning, rings, hits, and what the points of a box see. -/
import Derived.Test.YtggafoldccikdaaBas
namespace Go.Proofs.Ytggafoldccikdaa.Pk
set_option linter.unusedVariables false
set_option linter.unusedSimpArgs false

structure V where
  x : Int
  y : Int
theorem V.eq {u v : V} (h1 : u.x = v.x) (h2 : u.y = v.y) : u = v := by
  cases u
  cases v
  simp_all
def sub (u v : V) : V := ⟨u.x - v.x, u.y - v.y⟩
def neg (u : V) : V := ⟨-u.x, -u.y⟩
def crs (u v : V) : Int := u.x * v.y - u.y * v.x
def dot (u v : V) : Int := u.x * v.x + u.y * v.y
def sgn (x : Int) : Int := if 0 < x then 1 else if x < 0 then -1 else 0
def kp (y : Int) : Int := 1 + sgn y
def T (u v : V) : Int := ((kp v.y - kp u.y).natAbs : Int) * sgn (crs u v)
theorem sgn_pos {x : Int} (h : 0 < x) : sgn x = 1 := if_pos h
theorem sgn_neg {x : Int} (h : x < 0) : sgn x = -1 := by
  unfold sgn
  rw [if_neg (by omega), if_pos h]
theorem sgn_zero : sgn 0 = 0 := rfl
theorem sgn_opp (x : Int) : sgn (-x) = -sgn x := by
  unfold sgn
  repeat' split
  all_goals omega
theorem sgn_cases (x : Int) : (0 < x ∧ sgn x = 1) ∨ (x < 0 ∧ sgn x = -1) ∨ (x = 0 ∧ sgn x = 0) := by
  unfold sgn
  repeat' split
  all_goals omega
theorem sgn_mul {k : Int} (hk : 0 < k) (x : Int) : sgn (k * x) = sgn x := by
  rcases sgn_cases x with ⟨h, e⟩ | ⟨h, e⟩ | ⟨h, e⟩
  · rw [e, sgn_pos (Int.mul_pos hk h)]
  · rw [e, sgn_neg (Int.mul_neg_of_pos_of_neg hk h)]
  · rw [h, Int.mul_zero]
theorem kp_opp (y : Int) : kp (-y) = 2 - kp y := by
  unfold kp
  rw [sgn_opp]
  omega
theorem crs_swap (u v : V) : crs v u = -crs u v := by unfold crs; grind
theorem crs_negl (u v : V) : crs (neg u) v = -crs u v := by unfold crs neg; grind
theorem crs_negr (u v : V) : crs u (neg v) = -crs u v := by unfold crs neg; grind
theorem T_anti (u v : V) : T v u = -T u v := by
  unfold T
  rw [crs_swap u v, sgn_opp]
  have : (kp u.y - kp v.y).natAbs = (kp v.y - kp u.y).natAbs := by omega
  rw [this]
  grind
theorem T_neg2 (u v : V) : T (neg u) (neg v) = T u v := by
  unfold T
  have e : crs (neg u) (neg v) = crs u v := by unfold crs neg; grind
  rw [e]
  have : (kp (neg v).y - kp (neg u).y).natAbs = (kp v.y - kp u.y).natAbs := by
    show (kp (-v.y) - kp (-u.y)).natAbs = _
    rw [kp_opp, kp_opp]
    omega
  rw [this]
theorem T_par {u v : V} (h : crs u v = 0) : T u v = 0 := by
  unfold T
  rw [h, sgn_zero, Int.mul_zero]
/-- In an open half-plane T is a difference. -/
theorem TA {g u v : V} (hu : 0 < dot g u) (hv : 0 < dot g v) : T u v = sgn g.x * (kp v.y - kp u.y) := by
  have id : g.x * crs u v = dot g u * v.y - dot g v * u.y := by unfold crs dot; grind
  have base : ∀ u v : V, 0 < dot g u → 0 < dot g v → u.y ≤ 0 → 0 ≤ v.y → (u.y < 0 ∨ 0 < v.y) → 0 < g.x * crs u v := by
    intro u v hu hv h1 h2 h3
    have id : g.x * crs u v = dot g u * v.y + dot g v * (-u.y) := by unfold crs dot; grind
    rw [id]
    have a := Int.mul_nonneg (Int.le_of_lt hu) h2
    have b := Int.mul_nonneg (Int.le_of_lt hv) (show 0 ≤ -u.y by omega)
    rcases h3 with h3 | h3
    · have := Int.mul_pos hv (show 0 < -u.y by omega)
      omega
    · have := Int.mul_pos hu h3
      omega
  have sg1 : 0 < g.x * crs u v → sgn (crs u v) = sgn g.x := fun h => by
    rcases sgn_cases g.x with ⟨a, e⟩ | ⟨a, e⟩ | ⟨a, e⟩
    · rw [e, sgn_pos]
      rcases Int.lt_trichotomy (crs u v) 0 with c | c | c
      · have := Int.mul_neg_of_pos_of_neg a c; omega
      · rw [c, Int.mul_zero] at h; omega
      · exact c
    · rw [e, sgn_neg]
      rcases Int.lt_trichotomy (crs u v) 0 with c | c | c
      · exact c
      · rw [c, Int.mul_zero] at h; omega
      · have := Int.mul_neg_of_neg_of_pos a c; omega
    · rw [a, Int.zero_mul] at h; omega
  have sg2 : g.x * crs u v < 0 → sgn (crs u v) = -sgn g.x := fun h => by
    rcases sgn_cases g.x with ⟨a, e⟩ | ⟨a, e⟩ | ⟨a, e⟩
    · rw [e, sgn_neg]
      rcases Int.lt_trichotomy (crs u v) 0 with c | c | c
      · exact c
      · rw [c, Int.mul_zero] at h; omega
      · have := Int.mul_pos a c; omega
    · rw [e, sgn_pos]
      · rfl
      · rcases Int.lt_trichotomy (crs u v) 0 with c | c | c
        · have := Int.mul_pos_of_neg_of_neg a c; omega
        · rw [c, Int.mul_zero] at h; omega
        · exact c
    · rw [a, Int.zero_mul] at h; omega
  have ku : kp u.y = 1 + sgn u.y := rfl
  have kv : kp v.y = 1 + sgn v.y := rfl
  unfold T
  rcases sgn_cases u.y with ⟨a, e⟩ | ⟨a, e⟩ | ⟨a, e⟩ <;> rcases sgn_cases v.y with ⟨b, f⟩ | ⟨b, f⟩ | ⟨b, f⟩ <;> rw [ku, kv, e, f]
  · simp
  · have h := base v u hv hu (by omega) (by omega) (by omega)
    rw [crs_swap] at h
    rw [sg2 (by rw [Int.mul_neg] at h; omega)]
    simp
    omega
  · have h := base v u hv hu (by omega) (by omega) (by omega)
    rw [crs_swap] at h
    rw [sg2 (by rw [Int.mul_neg] at h; omega)]
    simp
  · rw [sg1 (base u v hu hv (by omega) (by omega) (by omega))]
    simp
    omega
  · simp
  · rw [sg1 (base u v hu hv (by omega) (by omega) (by omega))]
    simp
  · rw [sg1 (base u v hu hv (by omega) (by omega) (by omega))]
    simp
  · have h := base v u hv hu (by omega) (by omega) (by omega)
    rw [crs_swap] at h
    rw [sg2 (by rw [Int.mul_neg] at h; omega)]
    simp
  · simp
/-- Three vectors of one half-plane. -/
theorem TA3 {g u v w : V} (hu : 0 < dot g u) (hv : 0 < dot g v) (hw : 0 < dot g w) : T u v + T v w = T u w := by
  rw [TA hu hv, TA hv hw, TA hu hw]
  grind
/-- A straight angle counts two. -/
theorem straight {u d : V} (h : crs u d ≠ 0) : T u d - T u (neg d) = 2 * sgn (crs u d) := by
  unfold T
  rw [crs_negr, sgn_opp]
  have kd : kp (neg d).y = 2 - kp d.y := kp_opp d.y
  rw [kd]
  have ku : kp u.y = 1 + sgn u.y := rfl
  have kd : kp d.y = 1 + sgn d.y := rfl
  rw [ku, kd]
  rcases sgn_cases u.y with ⟨a, e⟩ | ⟨a, e⟩ | ⟨a, e⟩ <;> rcases sgn_cases d.y with ⟨b, f⟩ | ⟨b, f⟩ | ⟨b, f⟩ <;> rw [e, f] <;> first | (simp; done) | (simp; omega) | (exfalso; apply h; unfold crs; rw [a, b]; simp; done)
def S (f : Nat → Int) (a : Nat) : Nat → Int
  | 0 => 0
  | c + 1 => S f a c + f (a + c)
theorem S_head (f : Nat → Int) (a : Nat) : ∀ c, S f a (c + 1) = f a + S f (a + 1) c
  | 0 => by simp [S]
  | c + 1 => by
    rw [S, S_head f a c, S, show a + (c + 1) = a + 1 + c by omega]
    omega
theorem S_congr {f g : Nat → Int} {a : Nat} : ∀ {c : Nat}, (∀ j, a ≤ j → j < a + c → f j = g j) → S f a c = S g a c
  | 0, _ => rfl
  | c + 1, h => by
    rw [S, S, S_congr (fun j h1 h2 => h j h1 (by omega)), h (a + c) (by omega) (by omega)]
/-- A sum over a whole period. -/
theorem S_turn {f : Nat → Int} {n : Nat} (hf : ∀ j, f (j + n) = f j) : ∀ a, S f a n = S f 0 n
  | 0 => rfl
  | a + 1 => by
    rw [← S_turn hf a]
    cases n with
    | zero => rfl
    | succ n =>
      rw [S_head f a n, S, show a + 1 + n = a + (n + 1) by omega, hf]
      omega
def H (w : Nat → V) (j : Nat) : Int := T (w j) (w (j + 1))
/-- Seen from two places: the sums differ by what the ends turn. -/
theorem move {w w' : Nat → V} {a : Nat} : ∀ {c : Nat}, (∀ j, a ≤ j → j < a + c → ∃ g, 0 < dot g (w j) ∧ 0 < dot g (w (j + 1)) ∧ 0 < dot g (w' j) ∧ 0 < dot g (w' (j + 1))) →
    S (H w) a c - S (H w') a c = T (w a) (w' a) - T (w (a + c)) (w' (a + c))
  | 0, _ => by simp [S]
  | c + 1, h => by
    have ih := move (w := w) (w' := w') (a := a) (c := c) (fun j h1 h2 => h j h1 (by omega))
    obtain ⟨g, g1, g2, g3, g4⟩ := h (a + c) (by omega) (by omega)
    have e1 := TA3 g1 g2 g4
    have e2 := TA3 g1 g3 g4
    rw [S, S, show a + (c + 1) = a + c + 1 by omega]
    unfold H at ih ⊢
    omega
/-- A ring: edges that are not adjacent lie apart, adjacent ones do not turn back. -/
structure Ring (n : Nat) (p : Nat → V) : Prop where
  n3 : 3 ≤ n
  per : ∀ i, p (i + n) = p i
  sep : ∀ i k, 2 ≤ k → k + 2 ≤ n → ∃ g, 0 < dot g (sub (p (i + k)) (p i)) ∧ 0 < dot g (sub (p (i + k + 1)) (p i)) ∧ 0 < dot g (sub (p (i + k)) (p (i + 1))) ∧ 0 < dot g (sub (p (i + k + 1)) (p (i + 1)))
  adj : ∀ i, ∃ g, 0 < dot g (sub (p (i + 1)) (p i)) ∧ 0 < dot g (sub (p (i + 2)) (p (i + 1)))
/-- The ring seen from vertex i. -/
def vw (p : Nat → V) (i j : Nat) : V := sub (p j) (p i)
def N (n : Nat) (p : Nat → V) (i : Nat) : Int := S (H (vw p i)) (i + 1) (n - 2)
/-- The turn at vertex i + 1. -/
def tau (p : Nat → V) (i : Nat) : Int := T (sub (p (i + 1)) (p i)) (sub (p (i + 2)) (p (i + 1)))
theorem dot_add (g a b c : V) : dot g (sub a c) = dot g (sub a b) + dot g (sub b c) := by unfold dot sub; grind
theorem dot_rev (g a b : V) : dot (neg g) (sub b a) = dot g (sub a b) := by unfold dot sub neg; grind
theorem sub_rev (a b : V) : sub b a = neg (sub a b) := by
  refine V.eq ?_ ?_
  · show b.x - a.x = -(a.x - b.x)
    omega
  · show b.y - a.y = -(a.y - b.y)
    omega
section
variable {n : Nat} {p : Nat → V}
theorem Ring.const (h : Ring n p) (i : Nat) : N n p (i + 1) + tau p i = N n p (i + 2) + tau p (i + 1) := by
  obtain ⟨m, rfl⟩ : ∃ m, n = m + 3 := ⟨n - 3, by have := h.n3; omega⟩
  unfold N
  rw [show m + 3 - 2 = m + 1 by omega, S_head, S]
  have mv := move (w := vw p (i + 1)) (w' := vw p (i + 2)) (a := i + 3) (c := m) (fun j h1 h2 => by
    obtain ⟨g, g1, g2, g3, g4⟩ := h.sep (i + 1) (j - (i + 1)) (by omega) (by omega)
    rw [show i + 1 + (j - (i + 1)) = j by omega] at g1 g2 g3 g4
    exact ⟨g, g1, g2, g3, g4⟩)
  obtain ⟨g, g1, g2⟩ := h.adj (i + 1)
  have s1 : 0 < dot g (sub (p (i + 3)) (p (i + 1))) := by
    rw [dot_add g _ (p (i + 2)) _]
    exact Int.add_pos g2 g1
  have t1 := TA3 g1 s1 g2
  obtain ⟨k, k1, k2⟩ := h.adj i
  have s2 : 0 < dot k (sub (p (i + 2)) (p i)) := by
    rw [dot_add k _ (p (i + 1)) _]
    exact Int.add_pos k2 k1
  have k1' : 0 < dot (neg k) (sub (p i) (p (i + 1))) := by rw [dot_rev]; exact k1
  have k2' : 0 < dot (neg k) (sub (p (i + 1)) (p (i + 2))) := by rw [dot_rev]; exact k2
  have s2' : 0 < dot (neg k) (sub (p i) (p (i + 2))) := by rw [dot_rev]; exact s2
  have t2 := TA3 k1' s2' k2'
  have e : T (sub (p i) (p (i + 1))) (sub (p (i + 1)) (p (i + 2))) = tau p i := by
    unfold tau
    rw [sub_rev (p (i + 1)) (p i), sub_rev (p (i + 2)) (p (i + 1)), T_neg2]
  have q1 : p (i + 3 + m) = p i := by rw [show i + 3 + m = i + (m + 3) by omega]; exact h.per i
  have q2 : p (i + 3 + m + 1) = p (i + 1) := by rw [show i + 3 + m + 1 = i + 1 + (m + 3) by omega]; exact h.per (i + 1)
  rw [show i + 2 + 1 + m = i + 3 + m by omega, show i + 1 + 1 + 1 = i + 3 by omega, show i + 1 + 1 = i + 2 by omega, show i + 2 + 1 = i + 3 by omega]
  unfold H vw at *
  rw [q1, q2, show i + 2 + 1 = i + 3 by omega]
  rw [q1] at mv
  have e2 : tau p (i + 1) = T (sub (p (i + 2)) (p (i + 1))) (sub (p (i + 3)) (p (i + 2))) := rfl
  have t1' : T (sub (p (i + 2)) (p (i + 1))) (sub (p (i + 3)) (p (i + 1))) + T (sub (p (i + 3)) (p (i + 1))) (sub (p (i + 3)) (p (i + 2))) = T (sub (p (i + 2)) (p (i + 1))) (sub (p (i + 3)) (p (i + 2))) := t1
  rw [e2]
  rw [e] at t2
  omega
/-- The one number. -/
def C (n : Nat) (p : Nat → V) : Int := N n p 1 + tau p 0
theorem Ring.all (h : Ring n p) : ∀ i, N n p (i + 1) + tau p i = C n p
  | 0 => rfl
  | i + 1 => by rw [← h.const i]; exact h.all i
theorem vw_per (h : Ring n p) (i j : Nat) : vw p (i + n) (j + n) = vw p i j := by
  unfold vw
  rw [h.per, h.per]
theorem S_shift (f : Nat → Int) (n a : Nat) : ∀ c, S f (a + n) c = S (fun j => f (j + n)) a c
  | 0 => rfl
  | c + 1 => by rw [S, S, S_shift f n a c, show a + n + c = a + c + n by omega]
theorem N_per (h : Ring n p) (i : Nat) : N n p (i + n) = N n p i := by
  unfold N
  rw [show i + n + 1 = i + 1 + n by omega, S_shift]
  refine S_congr (fun j _ _ => ?_)
  unfold H
  rw [show j + n + 1 = j + 1 + n by omega, vw_per h, vw_per h]
theorem tau_per (h : Ring n p) (i : Nat) : tau p (i + n) = tau p i := by
  unfold tau
  rw [show i + n + 1 = i + 1 + n by omega, show i + n + 2 = i + 2 + n by omega, h.per, h.per, h.per]
/-- The turns add up to twice that number. -/
theorem Ring.turns (h : Ring n p) : S (tau p) 0 n = 2 * C n p := by
  obtain ⟨m, rfl⟩ : ∃ m, n = m + 3 := ⟨n - 3, by have := h.n3; omega⟩
  have hn : p (m + 3) = p 0 := by have := h.per 0; rw [Nat.zero_add] at this; exact this
  -- the rows, cut at the last vertex
  have row : ∀ i, 1 ≤ i → i ≤ m + 1 → S (H (vw p i)) (i + 1) (m + 2 - i) = S (H (vw p (i + 1))) (i + 2) (m + 2 - (i + 1)) + tau p i - T (sub (p 0) (p i)) (sub (p 0) (p (i + 1))) := by
    intro i i1 i2
    rw [show m + 2 - i = (m + 1 - i) + 1 by omega, S_head, show m + 2 - (i + 1) = m + 1 - i by omega]
    have mv := move (w := vw p i) (w' := vw p (i + 1)) (a := i + 2) (c := m + 1 - i) (fun j h1 h2 => by
      obtain ⟨g, g1, g2, g3, g4⟩ := h.sep i (j - i) (by omega) (by omega)
      rw [show i + (j - i) = j by omega] at g1 g2 g3 g4
      exact ⟨g, g1, g2, g3, g4⟩)
    obtain ⟨g, g1, g2⟩ := h.adj i
    have s1 : 0 < dot g (sub (p (i + 2)) (p i)) := by
      rw [dot_add g _ (p (i + 1)) _]
      exact Int.add_pos g2 g1
    have t1 := TA3 g1 s1 g2
    rw [show i + 2 + (m + 1 - i) = m + 3 by omega] at mv
    unfold H vw tau at *
    rw [hn] at mv
    rw [show i + 1 + 1 = i + 2 by omega]
    omega
  -- all rows
  have rows : ∀ c, c ≤ m + 1 → S (H (vw p 1)) 2 (m + 1) = S (H (vw p (1 + c))) (2 + c) (m + 1 - c) + S (tau p) 1 c - S (H (vw p 0)) 1 c := by
    intro c
    induction c with
    | zero => intro _; simp [S]
    | succ c ih =>
      intro hc
      have r := row (1 + c) (by omega) (by omega)
      rw [ih (by omega), S, S]
      rw [show m + 2 - (1 + c) = m + 1 - c by omega, show 1 + c + 1 = 2 + c by omega, show m + 2 - (2 + c) = m + 1 - (c + 1) by omega, show 1 + c + 2 = 2 + (c + 1) by omega] at r
      rw [show 1 + (c + 1) = 2 + c by omega]
      have e : T (sub (p 0) (p (1 + c))) (sub (p 0) (p (2 + c))) = H (vw p 0) (1 + c) := by
        unfold H vw
        rw [sub_rev (p (1 + c)) (p 0), sub_rev (p (2 + c)) (p 0), T_neg2, show 1 + c + 1 = 2 + c by omega]
      rw [e] at r
      omega
  have r := rows (m + 1) (Nat.le_refl _)
  rw [show m + 1 - (m + 1) = 0 by omega, S] at r
  have n1 : N (m + 3) p 1 = S (H (vw p 1)) 2 (m + 1) := rfl
  have n0 : N (m + 3) p 0 = S (H (vw p 0)) 1 (m + 1) := rfl
  have c0 := h.all 0
  have c1 : N (m + 3) p (m + 3) + tau p (m + 2) = C (m + 3) p := h.all (m + 2)
  have np : N (m + 3) p (0 + (m + 3)) = N (m + 3) p 0 := N_per h 0
  rw [Nat.zero_add] at np
  rw [show S (tau p) 0 (m + 3) = S (tau p) 0 (m + 2) + tau p (0 + (m + 2)) from rfl, S_head, show 0 + (m + 2) = m + 2 by omega]
  have c0' : N (m + 3) p 1 + tau p 0 = C (m + 3) p := c0
  show tau p 0 + S (tau p) 1 (m + 1) + tau p (m + 2) = _
  omega
end
theorem dot_crs0 {g u v : V} (h : crs u v = 0) (k : V) : dot g u * dot k v = dot g v * dot k u := by
  have : dot g u * dot k v - dot g v * dot k u = crs u v * crs g k := by unfold dot crs; grind
  rw [h, Int.zero_mul] at this
  omega
theorem T_smul {k : Int} (hk : 0 < k) (u v : V) : T ⟨k * u.x, k * u.y⟩ v = T u v := by
  unfold T
  have e : crs ⟨k * u.x, k * u.y⟩ v = k * crs u v := by unfold crs; grind
  have e2 : kp (k * u.y) = kp u.y := by unfold kp; rw [sgn_mul hk]
  show ((kp v.y - kp (k * u.y)).natAbs : Int) * _ = _
  rw [e, sgn_mul hk, e2]
theorem T_smulr {k : Int} (hk : 0 < k) (u v : V) : T u ⟨k * v.x, k * v.y⟩ = T u v := by
  rw [T_anti, T_smul hk, ← T_anti]
theorem tel {w : Nat → V} {g : V} {a : Nat} : ∀ {c : Nat}, (∀ j, a ≤ j → j ≤ a + c → 0 < dot g (w j)) → S (H w) a c = sgn g.x * (kp (w (a + c)).y - kp (w a).y)
  | 0, _ => by simp [S]
  | c + 1, h => by
    rw [S, tel (fun j h1 h2 => h j h1 (by omega))]
    unfold H
    rw [TA (h (a + c) (by omega) (by omega)) (h (a + c + 1) (by omega) (by omega)), show a + (c + 1) = a + c + 1 by omega]
    grind
/-- The lowest of the first m, of those the leftmost. -/
theorem lowest (p : Nat → V) : ∀ m, 0 < m → ∃ i, i < m ∧ ∀ j, j < m → (p i).y < (p j).y ∨ ((p i).y = (p j).y ∧ (p i).x ≤ (p j).x)
  | 0, h => by omega
  | 1, _ => ⟨0, by omega, fun j hj => by
    obtain rfl : j = 0 := by omega
    exact .inr ⟨rfl, Int.le_refl _⟩⟩
  | m + 2, _ => by
    obtain ⟨i, hi, h⟩ := lowest p (m + 1) (by omega)
    by_cases c : (p i).y < (p (m + 1)).y ∨ ((p i).y = (p (m + 1)).y ∧ (p i).x ≤ (p (m + 1)).x)
    · refine ⟨i, by omega, fun j hj => ?_⟩
      by_cases e : j = m + 1
      · rw [e]; exact c
      · exact h j (by omega)
    · refine ⟨m + 1, by omega, fun j hj => ?_⟩
      by_cases e : j = m + 1
      · rw [e]; exact .inr ⟨rfl, Int.le_refl _⟩
      · have := h j (by omega)
        omega
theorem bound (p : Nat → V) : ∀ m, ∃ B : Int, 0 ≤ B ∧ ∀ j, j < m → -B ≤ (p j).x ∧ (p j).x ≤ B
  | 0 => ⟨0, by omega, fun j hj => by omega⟩
  | m + 1 => by
    obtain ⟨B, h0, h⟩ := bound p m
    refine ⟨B + (p m).x.natAbs, by omega, fun j hj => ?_⟩
    by_cases e : j = m
    · rw [e]; omega
    · have := h j (by omega)
      omega
section
variable {n : Nat} {p : Nat → V}
theorem Ring.mod (h : Ring n p) (j : Nat) : p (j % n) = p j := by
  have key : ∀ q r, p (r + n * q) = p r := by
    intro q
    induction q with
    | zero => intro r; rw [Nat.mul_zero, Nat.add_zero]
    | succ q ih => intro r; rw [Nat.mul_succ, ← Nat.add_assoc, h.per]; exact ih r
  have := key (j / n) (j % n)
  rw [Nat.mod_add_div] at this
  exact this.symm
/-- The vertices are apart from each other as seen from vertex i + 1. -/
theorem Ring.ne (h : Ring n p) (i j : Nat) (h1 : i + 2 ≤ j) (h2 : j ≤ i + n) : ∃ g, 0 < dot g (sub (p j) (p (i + 1))) := by
  have := h.n3
  by_cases e : j = i + 2
  · subst e
    obtain ⟨g, g1, g2⟩ := h.adj (i + 1)
    exact ⟨g, g1⟩
  · by_cases e2 : j = i + n
    · subst e2
      obtain ⟨g, g1, g2⟩ := h.adj i
      refine ⟨neg g, ?_⟩
      rw [h.per, dot_rev]
      exact g1
    · obtain ⟨g, g1, g2, g3, g4⟩ := h.sep (i + 1) (j - (i + 1)) (by omega) (by omega)
      rw [show i + 1 + (j - (i + 1)) = j by omega] at g1
      exact ⟨g, g1⟩
/-- What opposite directions would do. -/
theorem Ring.fold (h : Ring n p) (i : Nat) {g : V} (g1 : 0 < dot g (sub (p i) (p (i + 1)))) (g2 : 0 < dot g (sub (p (i + 2)) (p (i + 1)))) : crs (sub (p (i + 2)) (p (i + 1))) (sub (p i) (p (i + 1))) ≠ 0 := by
  intro hc
  obtain ⟨k, k1, k2⟩ := h.adj i
  have e := dot_crs0 (g := g) hc k
  have k1' : dot k (sub (p i) (p (i + 1))) < 0 := by
    have := dot_rev k (p (i + 1)) (p i)
    have e : dot (neg k) (sub (p i) (p (i + 1))) = -dot k (sub (p i) (p (i + 1))) := by unfold dot neg; grind
    omega
  have a := Int.mul_neg_of_pos_of_neg g2 k1'
  have b := Int.mul_pos g1 k2
  omega
theorem Ring.two (h : Ring n p) : C n p = 2 ∨ C n p = -2 := by
  have hn := h.n3
  obtain ⟨i0, hi0, hl0⟩ := lowest p n (by omega)
  obtain ⟨B, hB0, hB⟩ := bound p n
  -- its number, with a vertex before it
  obtain ⟨i, hi⟩ : ∃ i, p (i + 1) = p i0 := ⟨i0 + n - 1, by rw [show i0 + n - 1 + 1 = i0 + n by omega]; exact h.per i0⟩
  have hl : ∀ j, (p (i + 1)).y < (p j).y ∨ ((p (i + 1)).y = (p j).y ∧ (p (i + 1)).x ≤ (p j).x) := fun j => by
    rw [hi, ← h.mod j]
    exact hl0 _ (Nat.mod_lt _ (by omega))
  have hb : ∀ j, -B ≤ (p j).x ∧ (p j).x ≤ B := fun j => by
    rw [← h.mod j]
    exact hB _ (Nat.mod_lt _ (by omega))
  have pos : ∀ j, i + 2 ≤ j → j ≤ i + n → 0 < dot ⟨1, 2 * B + 1⟩ (sub (p j) (p (i + 1))) := fun j h1 h2 => by
    show 0 < 1 * ((p j).x - (p (i + 1)).x) + (2 * B + 1) * ((p j).y - (p (i + 1)).y)
    have b1 := hb j
    have b2 := hb (i + 1)
    rcases hl j with c | ⟨c1, c2⟩
    · have := Int.mul_le_mul_of_nonneg_left (show 1 ≤ (p j).y - (p (i + 1)).y by omega) (show 0 ≤ 2 * B + 1 by omega)
      omega
    · obtain ⟨g, hg⟩ := h.ne i j h1 h2
      have : (p j).x ≠ (p (i + 1)).x := fun e => by
        have : sub (p j) (p (i + 1)) = ⟨0, 0⟩ := V.eq (show (p j).x - (p (i + 1)).x = 0 by omega) (show (p j).y - (p (i + 1)).y = 0 by omega)
        rw [this] at hg
        unfold dot at hg
        simp at hg
      rw [← c1, Int.sub_self, Int.mul_zero]
      omega
  have t := tel (w := vw p (i + 1)) (g := ⟨1, 2 * B + 1⟩) (a := i + 2) (c := n - 2) (fun j h1 h2 => pos j h1 (by omega))
  rw [show i + 2 + (n - 2) = i + n by omega] at t
  have hN : N n p (i + 1) = S (H (vw p (i + 1))) (i + 2) (n - 2) := rfl
  have d0 := pos (i + 2) (Nat.le_refl _) (by omega)
  have b0 := pos (i + n) (by omega) (Nat.le_refl _)
  rw [h.per] at b0
  have hf := h.fold i b0 d0
  have hs := straight hf
  have hc := h.all i
  have e1 : tau p i = -T (sub (p (i + 2)) (p (i + 1))) (neg (sub (p i) (p (i + 1)))) := by
    unfold tau
    rw [sub_rev (p i) (p (i + 1)), T_anti]
  have e2 : T (sub (p (i + 2)) (p (i + 1))) (sub (p i) (p (i + 1))) = kp (sub (p i) (p (i + 1))).y - kp (sub (p (i + 2)) (p (i + 1))).y := by
    rw [TA d0 b0]
    show sgn 1 * _ = _
    rw [show sgn 1 = 1 from rfl]
    omega
  have e3 : (vw p (i + 1) (i + n)) = sub (p i) (p (i + 1)) := by unfold vw; rw [h.per]
  rw [e3] at t
  have e4 : sgn ((⟨1, 2 * B + 1⟩ : V).x) = 1 := rfl
  rw [e4] at t
  have e5 : vw p (i + 1) (i + 2) = sub (p (i + 2)) (p (i + 1)) := rfl
  rw [e5] at t
  rcases sgn_cases (crs (sub (p (i + 2)) (p (i + 1))) (sub (p i) (p (i + 1)))) with ⟨_, f⟩ | ⟨_, f⟩ | ⟨f, _⟩
  · left; omega
  · right; omega
  · exact absurd f hf
/-- Seen from a point inside the edge from i + 1 to i + 2 (weights s, t). -/
def vz (p : Nat → V) (i : Nat) (s t : Int) (j : Nat) : V := ⟨(s + t) * (p j).x - (s * (p (i + 1)).x + t * (p (i + 2)).x), (s + t) * (p j).y - (s * (p (i + 1)).y + t * (p (i + 2)).y)⟩
theorem dot_vz (g : V) (i : Nat) (s t : Int) (j : Nat) : dot g (vz p i s t j) = s * dot g (sub (p j) (p (i + 1))) + t * dot g (sub (p j) (p (i + 2))) := by
  unfold dot vz sub
  grind
theorem comb_pos {s t a b : Int} (hs : 0 < s) (ht : 0 < t) (ha : 0 < a) (hb : 0 < b) : 0 < s * a + t * b := Int.add_pos (Int.mul_pos hs ha) (Int.mul_pos ht hb)
theorem dot_sub_self (g a : V) : dot g (sub a a) = 0 := by unfold dot sub; grind
/-- Every other edge lies apart from that point. -/
theorem Ring.vz_out (h : Ring n p) (i : Nat) {s t : Int} (hs : 0 < s) (ht : 0 < t) (j : Nat) (h1 : i + 2 ≤ j) (h2 : j ≤ i + n) : ∃ g, 0 < dot g (vz p i s t j) ∧ 0 < dot g (vz p i s t (j + 1)) := by
  have hn := h.n3
  by_cases e : j = i + 2
  · subst e
    obtain ⟨g, g1, g2⟩ := h.adj (i + 1)
    refine ⟨g, ?_, ?_⟩
    · rw [dot_vz, dot_sub_self, Int.mul_zero, Int.add_zero]
      exact Int.mul_pos hs g1
    · rw [dot_vz, dot_add g _ (p (i + 2)) _]
      exact comb_pos hs ht (Int.add_pos g2 g1) g2
  · by_cases e2 : j = i + n
    · subst e2
      obtain ⟨g, g1, g2⟩ := h.adj i
      refine ⟨neg g, ?_, ?_⟩
      · rw [dot_vz, h.per, dot_rev, dot_rev, dot_add g (p (i + 2)) (p (i + 1)) (p i)]
        exact comb_pos hs ht g1 (Int.add_pos g2 g1)
      · rw [dot_vz, show i + n + 1 = i + 1 + n by omega, h.per, dot_sub_self, Int.mul_zero, Int.zero_add, dot_rev]
        exact Int.mul_pos ht g2
    · obtain ⟨g, g1, g2, g3, g4⟩ := h.sep (i + 1) (j - (i + 1)) (by omega) (by omega)
      rw [show i + 1 + (j - (i + 1)) = j by omega] at g1 g2 g3 g4
      exact ⟨g, by rw [dot_vz]; exact comb_pos hs ht g1 g3, by rw [dot_vz]; exact comb_pos hs ht g2 g4⟩
theorem Ring.inside_edge (h : Ring n p) (i : Nat) {s t : Int} (hs : 0 < s) (ht : 0 < t) : S (H (vz p i s t)) (i + 2) (n - 1) = C n p := by
  obtain ⟨m, rfl⟩ : ∃ m, n = m + 3 := ⟨n - 3, by have := h.n3; omega⟩
  have hc := h.all i
  unfold N at hc
  rw [show m + 3 - 2 = m + 1 by omega, S_head] at hc
  rw [show m + 3 - 1 = m + 2 by omega, S_head, S]
  have mv := move (w := vw p (i + 1)) (w' := vz p i s t) (a := i + 3) (c := m) (fun j h1 h2 => by
    obtain ⟨g, g1, g2, g3, g4⟩ := h.sep (i + 1) (j - (i + 1)) (by omega) (by omega)
    rw [show i + 1 + (j - (i + 1)) = j by omega] at g1 g2 g3 g4
    exact ⟨g, g1, g2, by rw [dot_vz]; exact comb_pos hs ht g1 g3, by rw [dot_vz]; exact comb_pos hs ht g2 g4⟩)
  obtain ⟨g, g1, g2⟩ := h.adj (i + 1)
  have s1 : 0 < dot g (sub (p (i + 3)) (p (i + 1))) := by
    rw [dot_add g _ (p (i + 2)) _]
    exact Int.add_pos g2 g1
  have z2 : 0 < dot g (vz p i s t (i + 2)) := by
    rw [dot_vz, dot_sub_self, Int.mul_zero, Int.add_zero]
    exact Int.mul_pos hs g1
  have z3 : 0 < dot g (vz p i s t (i + 3)) := by
    rw [dot_vz]
    exact comb_pos hs ht s1 g2
  have a1 := TA g1 s1
  have a2 := TA s1 z3
  have a3 := TA z2 z3
  have ez2 : vz p i s t (i + 2) = ⟨s * (sub (p (i + 2)) (p (i + 1))).x, s * (sub (p (i + 2)) (p (i + 1))).y⟩ := by
    unfold vz sub
    refine V.eq ?_ ?_ <;> grind
  have k1 : kp (vz p i s t (i + 2)).y = kp (sub (p (i + 2)) (p (i + 1))).y := by
    rw [ez2]
    show kp (s * _) = _
    unfold kp
    rw [sgn_mul hs]
  -- the far end
  obtain ⟨k, k1', k2'⟩ := h.adj i
  have q1 : p (i + 3 + m) = p i := by rw [show i + 3 + m = i + (m + 3) by omega]; exact h.per i
  have q2 : p (i + 3 + m + 1) = p (i + 1) := by rw [show i + 3 + m + 1 = i + 1 + (m + 3) by omega]; exact h.per (i + 1)
  have f1 : 0 < dot (neg k) (sub (p i) (p (i + 1))) := by rw [dot_rev]; exact k1'
  have f2 : 0 < dot (neg k) (vz p i s t (i + 3 + m)) := by
    rw [dot_vz, q1, dot_rev, dot_rev, dot_add k (p (i + 2)) (p (i + 1)) (p i)]
    exact comb_pos hs ht k1' (Int.add_pos k2' k1')
  have f3 : 0 < dot (neg k) (vz p i s t (i + 3 + m + 1)) := by
    rw [dot_vz, q2, dot_sub_self, Int.mul_zero, Int.zero_add, dot_rev]
    exact Int.mul_pos ht k2'
  have t2 := TA3 f1 f2 f3
  have ez : vz p i s t (i + 3 + m + 1) = ⟨t * (sub (p (i + 1)) (p (i + 2))).x, t * (sub (p (i + 1)) (p (i + 2))).y⟩ := by
    unfold vz sub
    rw [q2]
    refine V.eq ?_ ?_ <;> grind
  have e : T (sub (p i) (p (i + 1))) (vz p i s t (i + 3 + m + 1)) = tau p i := by
    rw [ez, T_smulr ht]
    unfold tau
    rw [sub_rev (p (i + 1)) (p i), sub_rev (p (i + 2)) (p (i + 1)), T_neg2]
  rw [e] at t2
  rw [show i + 2 + 1 + m = i + 3 + m by omega, show i + 2 + 1 = i + 3 by omega]
  rw [show i + 1 + 1 = i + 2 by omega, show i + 2 + 1 = i + 3 by omega] at hc
  have hd : vw p (i + 1) (i + 3 + m) = sub (p i) (p (i + 1)) := by unfold vw; rw [q1]
  rw [hd] at mv
  unfold H at hc mv ⊢
  rw [show i + 2 + 1 = i + 3 by omega] at hc ⊢
  have v2 : vw p (i + 1) (i + 2) = sub (p (i + 2)) (p (i + 1)) := rfl
  have v3 : vw p (i + 1) (i + 3) = sub (p (i + 3)) (p (i + 1)) := rfl
  rw [v2, v3] at hc
  rw [v3] at mv
  rw [k1] at a3
  have a : T (sub (p (i + 2)) (p (i + 1))) (sub (p (i + 3)) (p (i + 1))) + T (sub (p (i + 3)) (p (i + 1))) (vz p i s t (i + 3)) = T (vz p i s t (i + 2)) (vz p i s t (i + 3)) := by
    have a1' : T (sub (p (i + 2)) (p (i + 1))) (sub (p (i + 3)) (p (i + 1))) = _ := a1
    rw [a1', a2, a3]
    show sgn g.x * (_ - kp (sub (p (i + 2)) (p (i + 1))).y) + _ = _
    grind
  omega
end
/-- The point (0, 0) lies on the edge. -/
def On0 (u v : V) : Prop := crs u v = 0 ∧ dot u v ≤ 0
def meets (u v : V) : Prop := (u.y ≤ 0 ∧ 0 ≤ v.y) ∨ (v.y ≤ 0 ∧ 0 ≤ u.y)
/-- Where the edge meets the row: nn / dd. -/
def nn (u v : V) : Int := if u.y = v.y then min u.x v.x else sgn (v.y - u.y) * crs u v
def dd (u v : V) : Int := if u.y = v.y then 1 else sgn (v.y - u.y) * (v.y - u.y)
def hit (u v : V) : Prop := meets u v ∧ 0 ≤ nn u v
theorem sgn_abs {x : Int} (h : x ≠ 0) : 0 < sgn x * x := by
  rcases sgn_cases x with ⟨a, e⟩ | ⟨a, e⟩ | ⟨a, e⟩
  · rw [e]; omega
  · rw [e]; omega
  · exact absurd a h
theorem dd_pos (u v : V) : 0 < dd u v := by
  unfold dd
  split
  · omega
  · exact sgn_abs (by omega)
theorem sq_pos {x : Int} (h : x ≠ 0) : 0 < x * x := by
  rcases Int.lt_trichotomy x 0 with c | c | c
  · exact Int.mul_pos_of_neg_of_neg c c
  · exact absurd c h
  · exact Int.mul_pos c c
theorem sq_nonneg (x : Int) : 0 ≤ x * x := by
  by_cases h : x = 0
  · rw [h]; decide
  · exact Int.le_of_lt (sq_pos h)
theorem mul_np {x y : Int} (h : (x ≤ 0 ∧ 0 ≤ y) ∨ (y ≤ 0 ∧ 0 ≤ x)) : x * y ≤ 0 := by
  rcases h with ⟨a, b⟩ | ⟨a, b⟩
  · have := Int.mul_nonneg (show 0 ≤ -x by omega) b
    rw [Int.neg_mul] at this
    omega
  · have := Int.mul_nonneg (show 0 ≤ -y by omega) b
    rw [Int.neg_mul, Int.mul_comm] at this
    omega
theorem off_crs {u v : V} (h : ¬ On0 u v) (hm : meets u v) (hy : u.y ≠ v.y) : crs u v ≠ 0 := by
  intro hc
  refine h ⟨hc, ?_⟩
  have hp := mul_np hm
  have e1 : u.x * v.y = u.y * v.x := by unfold crs at hc; omega
  unfold dot
  -- either v.y or u.y is not 0
  by_cases hv : v.y = 0
  · have hu : u.y ≠ 0 := by omega
    rw [hv, Int.mul_zero] at e1
    have : v.x = 0 := by
      rcases Int.mul_eq_zero.1 e1.symm with c | c
      · exact absurd c hu
      · exact c
    rw [this, hv]
    simp
  · have q := sq_pos hv
    have e2 : u.x * v.x * (v.y * v.y) = u.y * v.y * (v.x * v.x) := by
      have : u.x * v.x * (v.y * v.y) = (u.x * v.y) * (v.x * v.y) := by grind
      rw [this, e1]
      grind
    have r : u.y * v.y * (v.x * v.x) ≤ 0 := by
      have := Int.mul_nonneg (show 0 ≤ -(u.y * v.y) by omega) (sq_nonneg v.x)
      rw [Int.neg_mul] at this
      omega
    have : u.x * v.x ≤ 0 := by
      rcases Int.lt_or_le 0 (u.x * v.x) with c | c
      · have := Int.mul_pos c q
        omega
      · exact c
    omega
theorem dot_flip (g u : V) : dot (neg g) u = -dot g u := by unfold dot neg; grind
/-- An edge that does not meet the row between the point and z lies apart from both. -/
theorem sepRow {u v : V} {k dl : Int} (hk : 0 < k) (hdl : 0 < dl) (hoff : ¬ On0 u v) (hout : ∃ g, 0 < dot g ⟨k * u.x - dl, k * u.y⟩ ∧ 0 < dot g ⟨k * v.x - dl, k * v.y⟩) (hmin : hit u v → dl * dd u v ≤ nn u v * k) :
    ∃ g, 0 < dot g u ∧ 0 < dot g v ∧ 0 < dot g ⟨k * u.x - dl, k * u.y⟩ ∧ 0 < dot g ⟨k * v.x - dl, k * v.y⟩ := by
  by_cases up : 0 < u.y ∧ 0 < v.y
  · refine ⟨⟨0, 1⟩, ?_, ?_, ?_, ?_⟩ <;> unfold dot <;> simp only [Int.zero_mul, Int.one_mul, Int.zero_add]
    · exact up.1
    · exact up.2
    · exact Int.mul_pos hk up.1
    · exact Int.mul_pos hk up.2
  · by_cases dw : u.y < 0 ∧ v.y < 0
    · refine ⟨⟨0, -1⟩, ?_, ?_, ?_, ?_⟩ <;> unfold dot <;> simp only [Int.zero_mul, Int.neg_mul, Int.one_mul, Int.zero_add]
      · omega
      · omega
      · have := Int.mul_neg_of_pos_of_neg hk dw.1; omega
      · have := Int.mul_neg_of_pos_of_neg hk dw.2; omega
    · have hm : meets u v := by unfold meets; omega
      by_cases hy : u.y = v.y
      · -- level with the point
        have hu0 : u.y = 0 := by unfold meets at hm; omega
        have hv0 : v.y = 0 := by omega
        have hc : crs u v = 0 := by unfold crs; rw [hu0, hv0]; simp
        have hd : 0 < u.x * v.x := by
          rcases Int.lt_or_le 0 (u.x * v.x) with c | c
          · exact c
          · exact absurd ⟨hc, by unfold dot; rw [hu0, hv0]; simpa using c⟩ hoff
        have sgn2 : (0 < u.x ∧ 0 < v.x) ∨ (u.x < 0 ∧ v.x < 0) := by
          rcases Int.lt_trichotomy u.x 0 with c | c | c <;> rcases Int.lt_trichotomy v.x 0 with e | e | e
          · exact .inr ⟨c, e⟩
          · rw [e, Int.mul_zero] at hd; omega
          · have := Int.mul_neg_of_neg_of_pos c e; omega
          · rw [c, Int.zero_mul] at hd; omega
          · rw [c, Int.zero_mul] at hd; omega
          · rw [c, Int.zero_mul] at hd; omega
          · have := Int.mul_neg_of_pos_of_neg c e; omega
          · rw [e, Int.mul_zero] at hd; omega
          · exact .inl ⟨c, e⟩
        rcases sgn2 with ⟨a, b⟩ | ⟨a, b⟩
        · have hh := hmin ⟨hm, by unfold nn; rw [if_pos hy]; omega⟩
          unfold nn dd at hh
          rw [if_pos hy, if_pos hy, Int.mul_one] at hh
          obtain ⟨g, g1, g2⟩ := hout
          have m1 : min u.x v.x * k ≤ u.x * k := Int.mul_le_mul_of_nonneg_right (by omega) (by omega)
          have m2 : min u.x v.x * k ≤ v.x * k := Int.mul_le_mul_of_nonneg_right (by omega) (by omega)
          have n1 : k * u.x - dl ≠ 0 := fun e => by
            unfold dot at g1
            simp only [e, hu0, Int.mul_zero] at g1
            omega
          have n2 : k * v.x - dl ≠ 0 := fun e => by
            unfold dot at g2
            simp only [e, hv0, Int.mul_zero] at g2
            omega
          rw [Int.mul_comm u.x k] at m1
          rw [Int.mul_comm v.x k] at m2
          refine ⟨⟨1, 0⟩, ?_, ?_, ?_, ?_⟩ <;> unfold dot <;> simp only [Int.zero_mul, Int.one_mul, Int.add_zero]
          · exact a
          · exact b
          · omega
          · omega
        · have m1 := Int.mul_neg_of_pos_of_neg hk a
          have m2 := Int.mul_neg_of_pos_of_neg hk b
          refine ⟨⟨-1, 0⟩, ?_, ?_, ?_, ?_⟩ <;> unfold dot <;> simp only [Int.zero_mul, Int.neg_mul, Int.one_mul, Int.add_zero]
          · omega
          · omega
          · omega
          · omega
      · -- it crosses the row
        have hc := off_crs hoff hm hy
        have g0u : dot ⟨v.y - u.y, u.x - v.x⟩ u = crs u v := by unfold dot crs; grind
        have g0v : dot ⟨v.y - u.y, u.x - v.x⟩ v = crs u v := by unfold dot crs; grind
        have g0u' : dot ⟨v.y - u.y, u.x - v.x⟩ ⟨k * u.x - dl, k * u.y⟩ = k * crs u v - dl * (v.y - u.y) := by unfold dot crs; grind
        have g0v' : dot ⟨v.y - u.y, u.x - v.x⟩ ⟨k * v.x - dl, k * v.y⟩ = k * crs u v - dl * (v.y - u.y) := by unfold dot crs; grind
        -- not 0: z is not on the edge
        have hne : k * crs u v - dl * (v.y - u.y) ≠ 0 := fun e => by
          obtain ⟨g, g1, g2⟩ := hout
          have hz : crs ⟨k * u.x - dl, k * u.y⟩ ⟨k * v.x - dl, k * v.y⟩ = 0 := by
            have : crs ⟨k * u.x - dl, k * u.y⟩ ⟨k * v.x - dl, k * v.y⟩ = k * (k * crs u v - dl * (v.y - u.y)) := by unfold crs; grind
            rw [this, e, Int.mul_zero]
          have h1 := dot_crs0 (g := g) hz ⟨0, 1⟩
          have e1 : dot ⟨0, 1⟩ ⟨k * u.x - dl, k * u.y⟩ = k * u.y := by unfold dot; simp
          have e2 : dot ⟨0, 1⟩ ⟨k * v.x - dl, k * v.y⟩ = k * v.y := by unfold dot; simp
          rw [e1, e2] at h1
          rcases hm with ⟨a, b⟩ | ⟨a, b⟩
          · have p1 := Int.mul_nonneg (Int.le_of_lt g1) (Int.mul_nonneg (Int.le_of_lt hk) b)
            have p2 := Int.mul_nonneg (Int.le_of_lt g2) (Int.mul_nonneg (Int.le_of_lt hk) (show 0 ≤ -u.y by omega))
            rw [Int.mul_neg, Int.mul_neg] at p2
            have z1 : dot g ⟨k * u.x - dl, k * u.y⟩ * (k * v.y) = 0 := by omega
            have z2 : dot g ⟨k * v.x - dl, k * v.y⟩ * (k * u.y) = 0 := by omega
            have : v.y = 0 := by
              rcases Int.mul_eq_zero.1 z1 with c | c
              · omega
              · rcases Int.mul_eq_zero.1 c with c | c
                · omega
                · exact c
            have : u.y = 0 := by
              rcases Int.mul_eq_zero.1 z2 with c | c
              · omega
              · rcases Int.mul_eq_zero.1 c with c | c
                · omega
                · exact c
            omega
          · have p1 := Int.mul_nonneg (Int.le_of_lt g2) (Int.mul_nonneg (Int.le_of_lt hk) b)
            have p2 := Int.mul_nonneg (Int.le_of_lt g1) (Int.mul_nonneg (Int.le_of_lt hk) (show 0 ≤ -v.y by omega))
            rw [Int.mul_neg, Int.mul_neg] at p2
            have z1 : dot g ⟨k * u.x - dl, k * u.y⟩ * (k * v.y) = 0 := by omega
            have z2 : dot g ⟨k * v.x - dl, k * v.y⟩ * (k * u.y) = 0 := by omega
            have : v.y = 0 := by
              rcases Int.mul_eq_zero.1 z1 with c | c
              · omega
              · rcases Int.mul_eq_zero.1 c with c | c
                · omega
                · exact c
            have : u.y = 0 := by
              rcases Int.mul_eq_zero.1 z2 with c | c
              · omega
              · rcases Int.mul_eq_zero.1 c with c | c
                · omega
                · exact c
            omega
        -- the side of z is the side of the point
        have side : (0 < crs u v ∧ 0 < k * crs u v - dl * (v.y - u.y)) ∨ (crs u v < 0 ∧ k * crs u v - dl * (v.y - u.y) < 0) := by
          have hn : nn u v = sgn (v.y - u.y) * crs u v := by unfold nn; rw [if_neg hy]
          have hd : dd u v = sgn (v.y - u.y) * (v.y - u.y) := by unfold dd; rw [if_neg hy]
          rcases sgn_cases (v.y - u.y) with ⟨a, e⟩ | ⟨a, e⟩ | ⟨a, e⟩
          · rw [e, Int.one_mul] at hn hd
            rcases Int.lt_trichotomy (crs u v) 0 with c | c | c
            · right
              have := Int.mul_pos hdl a
              have := Int.mul_neg_of_pos_of_neg hk c
              exact ⟨c, by omega⟩
            · exact absurd c hc
            · left
              have hh := hmin ⟨hm, by rw [hn]; omega⟩
              rw [hn, hd, Int.mul_comm (crs u v) k] at hh
              exact ⟨c, by omega⟩
          · rw [e, Int.neg_mul, Int.one_mul] at hn hd
            rcases Int.lt_trichotomy (crs u v) 0 with c | c | c
            · right
              have hh := hmin ⟨hm, by rw [hn]; omega⟩
              rw [hn, hd, Int.neg_mul, Int.mul_neg, Int.mul_comm (crs u v) k] at hh
              exact ⟨c, by omega⟩
            · exact absurd c hc
            · left
              have := Int.mul_neg_of_pos_of_neg hdl a
              have := Int.mul_pos hk c
              exact ⟨c, by omega⟩
          · omega
        rcases side with ⟨a, b⟩ | ⟨a, b⟩
        · exact ⟨⟨v.y - u.y, u.x - v.x⟩, by rw [g0u]; exact a, by rw [g0v]; exact a, by rw [g0u']; exact b, by rw [g0v']; exact b⟩
        · refine ⟨neg ⟨v.y - u.y, u.x - v.x⟩, ?_, ?_, ?_, ?_⟩ <;> rw [dot_flip]
          · rw [g0u]; omega
          · rw [g0v]; omega
          · rw [g0u']; omega
          · rw [g0v']; omega
/-- A half-plane with the direction to the right and d. -/
def gd (d : V) : V := ⟨1, (d.x.natAbs + 1) * sgn d.y⟩
theorem gd_d {d : V} (h : ¬ (d.y = 0 ∧ d.x ≤ 0)) : 0 < dot (gd d) d := by
  unfold dot gd
  show 0 < 1 * d.x + ((d.x.natAbs : Int) + 1) * sgn d.y * d.y
  rcases sgn_cases d.y with ⟨a, e⟩ | ⟨a, e⟩ | ⟨a, e⟩
  · rw [e, Int.mul_one]
    have := Int.mul_le_mul_of_nonneg_left (show 1 ≤ d.y by omega) (show 0 ≤ (d.x.natAbs : Int) + 1 by omega)
    omega
  · rw [e, Int.mul_assoc]
    have := Int.mul_le_mul_of_nonneg_left (show 1 ≤ -1 * d.y by omega) (show 0 ≤ (d.x.natAbs : Int) + 1 by omega)
    omega
  · rw [e]
    simp
    omega
theorem gd_r (d : V) {z : Int} (hz : 0 < z) : dot (gd d) ⟨z, 0⟩ = z := by
  unfold dot gd
  simp
/-- The two edges at a vertex, seen along a row. -/
theorem corner {b d : V} (hb : ¬ (b.y = 0 ∧ b.x ≤ 0)) (hd : ¬ (d.y = 0 ∧ d.x ≤ 0)) (hne : ∀ g, 0 < dot g b → 0 < dot g d → crs b d ≠ 0) : sgn d.y - sgn b.y - T (neg b) d = 2 ∨ sgn d.y - sgn b.y - T (neg b) d = -2 := by
  have hT : T (neg b) d = ((sgn d.y + sgn b.y).natAbs : Int) * -sgn (crs b d) := by
    unfold T
    rw [crs_negl, sgn_opp]
    have : kp d.y - kp (neg b).y = sgn d.y + sgn b.y := by
      show kp d.y - kp (-b.y) = _
      rw [kp_opp]
      unfold kp
      omega
    rw [this]
  rw [hT]
  rcases sgn_cases b.y with ⟨a1, e1⟩ | ⟨a1, e1⟩ | ⟨a1, e1⟩ <;> rcases sgn_cases d.y with ⟨a2, e2⟩ | ⟨a2, e2⟩ | ⟨a2, e2⟩ <;> rw [e1, e2]
  · have := hne ⟨0, 1⟩ (by unfold dot; simp; exact a1) (by unfold dot; simp; exact a2)
    rcases sgn_cases (crs b d) with ⟨_, f⟩ | ⟨_, f⟩ | ⟨f, _⟩
    · rw [f]; simp
    · rw [f]; simp
    · exact absurd f this
  · simp
  · have hx : 0 < d.x := by omega
    have : crs b d < 0 := by
      have := Int.mul_pos a1 hx
      unfold crs
      rw [a2, Int.mul_zero]
      omega
    rw [sgn_neg this]
    simp
  · simp
  · have := hne ⟨0, -1⟩ (by unfold dot; simp; exact a1) (by unfold dot; simp; exact a2)
    rcases sgn_cases (crs b d) with ⟨_, f⟩ | ⟨_, f⟩ | ⟨f, _⟩
    · rw [f]; simp
    · rw [f]; simp
    · exact absurd f this
  · have hx : 0 < d.x := by omega
    have : 0 < crs b d := by
      have := Int.mul_neg_of_neg_of_pos a1 hx
      unfold crs
      rw [a2, Int.mul_zero]
      omega
    rw [sgn_pos this]
    simp
  · have hx : 0 < b.x := by omega
    have : 0 < crs b d := by
      have := Int.mul_pos hx a2
      unfold crs
      rw [a1, Int.zero_mul]
      omega
    rw [sgn_pos this]
    simp
  · have hx : 0 < b.x := by omega
    have : crs b d < 0 := by
      have := Int.mul_neg_of_pos_of_neg hx a2
      unfold crs
      rw [a1, Int.zero_mul]
      omega
    rw [sgn_neg this]
    simp
  · have := hne ⟨1, 0⟩ (by unfold dot; simp; omega) (by unfold dot; simp; omega)
    exact absurd (by unfold crs; rw [a1, a2]; simp) this
def vo (p : Nat → V) (o : V) (j : Nat) : V := sub (p j) o
section
variable {n : Nat} {p : Nat → V} {o : V}
theorem Ring.vw_out (h : Ring n p) (i j : Nat) (h1 : i + 2 ≤ j) (h2 : j + 1 ≤ i + n) : ∃ g, 0 < dot g (vw p (i + 1) j) ∧ 0 < dot g (vw p (i + 1) (j + 1)) := by
  have hn := h.n3
  by_cases e : j = i + 2
  · subst e
    obtain ⟨g, g1, g2⟩ := h.adj (i + 1)
    refine ⟨g, g1, ?_⟩
    show 0 < dot g (sub (p (i + 3)) (p (i + 1)))
    rw [dot_add g (p (i + 3)) (p (i + 2)) (p (i + 1))]
    exact Int.add_pos g2 g1
  · by_cases e2 : j + 1 = i + n
    · obtain ⟨g, g1, g2⟩ := h.adj j
      have q1 : p (j + 1) = p i := by rw [e2]; exact h.per i
      have q2 : p (j + 2) = p (i + 1) := by rw [show j + 2 = i + 1 + n by omega]; exact h.per (i + 1)
      rw [q1] at g1 g2
      rw [q2] at g2
      refine ⟨neg g, ?_, ?_⟩
      · show 0 < dot (neg g) (sub (p j) (p (i + 1)))
        rw [dot_rev, dot_add g (p (i + 1)) (p i) (p j)]
        exact Int.add_pos g2 g1
      · show 0 < dot (neg g) (sub (p (j + 1)) (p (i + 1)))
        rw [q1, dot_rev]
        exact g2
    · obtain ⟨g, g1, g2, g3, g4⟩ := h.sep i (j - i) (by omega) (by omega)
      rw [show i + (j - i) = j by omega] at g3 g4
      exact ⟨g, g3, g4⟩
theorem row_x {u : V} (hu : u.y = 0) : u = ⟨u.x, 0⟩ := V.eq rfl hu
/-- The first thing on the row is a vertex. -/
theorem Ring.at_vertex (h : Ring n p) (hoff : ∀ j, ¬ On0 (vo p o j) (vo p o (j + 1))) (i : Nat) (hz : (vo p o (i + 1)).y = 0) (hx : 0 < (vo p o (i + 1)).x)
    (hmin : ∀ j, hit (vo p o j) (vo p o (j + 1)) → (vo p o (i + 1)).x * dd (vo p o j) (vo p o (j + 1)) ≤ nn (vo p o j) (vo p o (j + 1))) :
    S (H (vo p o)) i n = C n p + 2 ∨ S (H (vo p o)) i n = C n p - 2 := by
  obtain ⟨m, rfl⟩ : ∃ m, n = m + 3 := ⟨n - 3, by have := h.n3; omega⟩
  have hrel : ∀ j, vw p (i + 1) j = ⟨1 * (vo p o j).x - (vo p o (i + 1)).x, 1 * (vo p o j).y⟩ := fun j => by
    refine V.eq ?_ ?_
    · show (p j).x - (p (i + 1)).x = 1 * ((p j).x - o.x) - ((p (i + 1)).x - o.x)
      omega
    · have : (p (i + 1)).y - o.y = 0 := hz
      show (p j).y - (p (i + 1)).y = 1 * ((p j).y - o.y)
      omega
  have mv := move (w := vo p o) (w' := vw p (i + 1)) (a := i + 2) (c := m + 1) (fun j h1 h2 => by
    have ho := h.vw_out i j h1 (by omega)
    rw [hrel j, hrel (j + 1)] at ho ⊢
    exact sepRow (k := 1) (by omega) hx (hoff j) ho (fun hh => by rw [Int.mul_one]; exact hmin j hh))
  rw [show i + 2 + (m + 1) = i + (m + 3) by omega] at mv
  have qi : vo p o (i + (m + 3)) = vo p o i := by unfold vo; rw [h.per]
  have qb : vw p (i + 1) (i + (m + 3)) = sub (p i) (p (i + 1)) := by unfold vw; rw [h.per]
  rw [qi, qb] at mv
  have hN : N (m + 3) p (i + 1) = S (H (vw p (i + 1))) (i + 2) (m + 1) := rfl
  have hc := h.all i
  rw [S_head, S_head]
  rw [show i + 1 + 1 = i + 2 by omega]
  -- the two directions at the vertex
  have ed : vw p (i + 1) (i + 2) = sub (p (i + 2)) (p (i + 1)) := rfl
  rw [ed] at mv
  have nb : sub (p i) (p (i + 1)) ≠ ⟨0, 0⟩ := fun e => by
    obtain ⟨g, hg⟩ := h.ne i (i + (m + 3)) (by omega) (Nat.le_refl _)
    rw [h.per, e] at hg
    unfold dot at hg
    simp at hg
  have nd : sub (p (i + 2)) (p (i + 1)) ≠ ⟨0, 0⟩ := fun e => by
    obtain ⟨g, hg⟩ := h.ne i (i + 2) (Nat.le_refl _) (by omega)
    rw [e] at hg
    unfold dot at hg
    simp at hg
  have wb : vo p o i = ⟨(vo p o (i + 1)).x + (sub (p i) (p (i + 1))).x, (sub (p i) (p (i + 1))).y⟩ := by
    have : (p (i + 1)).y - o.y = 0 := hz
    refine V.eq ?_ ?_
    · show (p i).x - o.x = (p (i + 1)).x - o.x + ((p i).x - (p (i + 1)).x)
      omega
    · show (p i).y - o.y = (p i).y - (p (i + 1)).y
      omega
  have wd : vo p o (i + 2) = ⟨(vo p o (i + 1)).x + (sub (p (i + 2)) (p (i + 1))).x, (sub (p (i + 2)) (p (i + 1))).y⟩ := by
    have : (p (i + 1)).y - o.y = 0 := hz
    refine V.eq ?_ ?_
    · show (p (i + 2)).x - o.x = (p (i + 1)).x - o.x + ((p (i + 2)).x - (p (i + 1)).x)
      omega
    · show (p (i + 2)).y - o.y = (p (i + 2)).y - (p (i + 1)).y
      omega
  -- level edges at the vertex lie to the right
  have lev : ∀ u v : V, ¬ On0 u v → u.y = 0 → v.y = 0 → 0 < v.x → 0 < u.x := fun u v ho hu hv hvx => by
    rcases Int.lt_or_le 0 u.x with c | c
    · exact c
    · refine absurd ⟨by unfold crs; rw [hu, hv]; simp, ?_⟩ ho
      have := mul_np (.inl ⟨c, Int.le_of_lt hvx⟩)
      unfold dot
      rw [hu, hv]
      simpa using this
  have hb : ¬ ((sub (p i) (p (i + 1))).y = 0 ∧ (sub (p i) (p (i + 1))).x ≤ 0) := fun ⟨y0, x0⟩ => by
    have wy : (vo p o i).y = 0 := by rw [wb]; exact y0
    have px := lev _ _ (hoff i) wy hz hx
    have hh := hmin i ⟨.inl ⟨by omega, by omega⟩, by unfold nn; rw [if_pos (by omega)]; omega⟩
    unfold nn dd at hh
    rw [if_pos (by omega), if_pos (by omega), Int.mul_one] at hh
    have : (vo p o i).x = (vo p o (i + 1)).x + (sub (p i) (p (i + 1))).x := by rw [wb]
    exact nb (V.eq (show (sub (p i) (p (i + 1))).x = 0 by omega) y0)
  have hd : ¬ ((sub (p (i + 2)) (p (i + 1))).y = 0 ∧ (sub (p (i + 2)) (p (i + 1))).x ≤ 0) := fun ⟨y0, x0⟩ => by
    have wy : (vo p o (i + 2)).y = 0 := by rw [wd]; exact y0
    have ho2 : ¬ On0 (vo p o (i + 2)) (vo p o (i + 1)) := fun hq => hoff (i + 1) ⟨by rw [crs_swap]; have := hq.1; show -crs (vo p o (i + 2)) (vo p o (i + 1)) = 0; omega, by
      have := hq.2
      have e : dot (vo p o (i + 1)) (vo p o (i + 1 + 1)) = dot (vo p o (i + 2)) (vo p o (i + 1)) := by unfold dot; rw [show i + 1 + 1 = i + 2 by omega]; grind
      omega⟩
    have px := lev _ _ ho2 wy hz hx
    have hh := hmin (i + 1) ⟨.inl ⟨by omega, by rw [show i + 1 + 1 = i + 2 by omega]; omega⟩, by unfold nn; rw [if_pos (by rw [show i + 1 + 1 = i + 2 by omega]; omega), show i + 1 + 1 = i + 2 by omega]; omega⟩
    rw [show i + 1 + 1 = i + 2 by omega] at hh
    unfold nn dd at hh
    rw [if_pos (by omega), if_pos (by omega), Int.mul_one] at hh
    have : (vo p o (i + 2)).x = (vo p o (i + 1)).x + (sub (p (i + 2)) (p (i + 1))).x := by rw [wd]
    exact nd (V.eq (show (sub (p (i + 2)) (p (i + 1))).x = 0 by omega) y0)
  -- the turns at the vertex
  have wu := row_x hz
  have gb1 := gd_d hb
  have gd1 := gd_d hd
  have gbu : 0 < dot (gd (sub (p i) (p (i + 1)))) (vo p o (i + 1)) := by rw [wu, gd_r _ hx]; exact hx
  have gdu : 0 < dot (gd (sub (p (i + 2)) (p (i + 1)))) (vo p o (i + 1)) := by rw [wu, gd_r _ hx]; exact hx
  have sum : ∀ g : V, ∀ b : V, 0 < dot g (vo p o (i + 1)) → 0 < dot g b → 0 < dot g ⟨(vo p o (i + 1)).x + b.x, b.y⟩ := fun g b h1 h2 => by
    have : dot g ⟨(vo p o (i + 1)).x + b.x, b.y⟩ = dot g (vo p o (i + 1)) + dot g b := by
      unfold dot
      rw [hz]
      grind
    rw [this]
    exact Int.add_pos h1 h2
  have gbw : 0 < dot (gd (sub (p i) (p (i + 1)))) (vo p o i) := by rw [wb]; exact sum _ _ gbu gb1
  have gdw : 0 < dot (gd (sub (p (i + 2)) (p (i + 1)))) (vo p o (i + 2)) := by rw [wd]; exact sum _ _ gdu gd1
  have t1 := TA gbw gbu
  have t2 := TA gbw gb1
  have t3 := TA gdu gdw
  have t4 := TA gdw gd1
  have g1 : sgn (gd (sub (p i) (p (i + 1)))).x = 1 := rfl
  have g2 : sgn (gd (sub (p (i + 2)) (p (i + 1)))).x = 1 := rfl
  rw [g1] at t1 t2
  rw [g2] at t3 t4
  have k0 : kp (vo p o (i + 1)).y = 1 := by rw [hz]; rfl
  rw [k0] at t1 t3
  have kb : kp (sub (p i) (p (i + 1))).y = 1 + sgn (sub (p i) (p (i + 1))).y := rfl
  have kd : kp (sub (p (i + 2)) (p (i + 1))).y = 1 + sgn (sub (p (i + 2)) (p (i + 1))).y := rfl
  have et : tau p i = T (neg (sub (p i) (p (i + 1)))) (sub (p (i + 2)) (p (i + 1))) := by
    unfold tau
    rw [sub_rev (p i) (p (i + 1))]
  have hcor := corner hb hd (fun g g1 g2 e => h.fold i g1 g2 (by rw [crs_swap, e]; rfl))
  rw [← et] at hcor
  have h1 : H (vo p o) i = T (vo p o i) (vo p o (i + 1)) := rfl
  have h2 : H (vo p o) (i + 1) = T (vo p o (i + 1)) (vo p o (i + 2)) := rfl
  rw [h1, h2]
  omega
/-- The first thing on the row is inside an edge. -/
theorem Ring.at_edge (h : Ring n p) (hoff : ∀ j, ¬ On0 (vo p o j) (vo p o (j + 1))) (i : Nat) {s t : Int} (hs : 0 < s) (ht : 0 < t) (hy : s * (vo p o (i + 1)).y + t * (vo p o (i + 2)).y = 0) (hD : (sub (p (i + 2)) (p (i + 1))).y ≠ 0)
    (hx : 0 < s * (vo p o (i + 1)).x + t * (vo p o (i + 2)).x)
    (hmin : ∀ j, hit (vo p o j) (vo p o (j + 1)) → (s * (vo p o (i + 1)).x + t * (vo p o (i + 2)).x) * dd (vo p o j) (vo p o (j + 1)) ≤ nn (vo p o j) (vo p o (j + 1)) * (s + t)) :
    S (H (vo p o)) (i + 1) n = C n p + 2 ∨ S (H (vo p o)) (i + 1) n = C n p - 2 := by
  obtain ⟨m, rfl⟩ : ∃ m, n = m + 3 := ⟨n - 3, by have := h.n3; omega⟩
  have hk : 0 < s + t := Int.add_pos hs ht
  have hrel : ∀ j, vz p i s t j = ⟨(s + t) * (vo p o j).x - (s * (vo p o (i + 1)).x + t * (vo p o (i + 2)).x), (s + t) * (vo p o j).y⟩ := fun j => by
    refine V.eq ?_ ?_
    · show (s + t) * (p j).x - (s * (p (i + 1)).x + t * (p (i + 2)).x) = (s + t) * ((p j).x - o.x) - (s * ((p (i + 1)).x - o.x) + t * ((p (i + 2)).x - o.x))
      grind
    · have e : s * ((p (i + 1)).y - o.y) + t * ((p (i + 2)).y - o.y) = 0 := hy
      show (s + t) * (p j).y - (s * (p (i + 1)).y + t * (p (i + 2)).y) = (s + t) * ((p j).y - o.y)
      grind
  have mv := move (w := vo p o) (w' := vz p i s t) (a := i + 2) (c := m + 2) (fun j h1 h2 => by
    have ho := h.vz_out i hs ht j h1 (by omega)
    rw [hrel j, hrel (j + 1)] at ho ⊢
    exact sepRow hk hx (hoff j) ho (hmin j))
  have hz := h.inside_edge i hs ht
  rw [show m + 3 - 1 = m + 2 by omega] at hz
  rw [show i + 2 + (m + 2) = i + 1 + (m + 3) by omega] at mv
  have qi : vo p o (i + 1 + (m + 3)) = vo p o (i + 1) := by unfold vo; rw [h.per]
  have qz : vz p i s t (i + 1 + (m + 3)) = vz p i s t (i + 1) := by unfold vz; rw [h.per]
  rw [qi, qz] at mv
  rw [S_head, show i + 1 + 1 = i + 2 by omega]
  have h1 : H (vo p o) (i + 1) = T (vo p o (i + 1)) (vo p o (i + 2)) := rfl
  rw [h1]
  -- everything along D
  generalize hDd : sub (p (i + 2)) (p (i + 1)) = D at hD
  have Dx : D.x = (p (i + 2)).x - (p (i + 1)).x := by rw [← hDd]; rfl
  have Dy : D.y = (p (i + 2)).y - (p (i + 1)).y := by rw [← hDd]; rfl
  have z2 : vz p i s t (i + 2) = ⟨s * D.x, s * D.y⟩ := by
    unfold vz
    rw [Dx, Dy]
    refine V.eq ?_ ?_ <;> grind
  have z1 : vz p i s t (i + 1) = ⟨t * (neg D).x, t * (neg D).y⟩ := by
    unfold vz neg
    rw [Dx, Dy]
    refine V.eq ?_ ?_ <;> grind
  generalize hdl : s * (vo p o (i + 1)).x + t * (vo p o (i + 2)).x = dl at hx hrel
  have k2 : (⟨(s + t) * (vo p o (i + 2)).x, (s + t) * (vo p o (i + 2)).y⟩ : V) = ⟨dl + s * D.x, s * D.y⟩ := by
    have := (hrel (i + 2)).symm.trans z2
    have ex : (s + t) * (vo p o (i + 2)).x - dl = s * D.x := congrArg V.x this
    have ey : (s + t) * (vo p o (i + 2)).y = s * D.y := congrArg V.y this
    refine V.eq ?_ ?_
    · show (s + t) * (vo p o (i + 2)).x = dl + s * D.x
      omega
    · exact ey
  have k1 : (⟨(s + t) * (vo p o (i + 1)).x, (s + t) * (vo p o (i + 1)).y⟩ : V) = ⟨dl + t * (neg D).x, t * (neg D).y⟩ := by
    have := (hrel (i + 1)).symm.trans z1
    have ex : (s + t) * (vo p o (i + 1)).x - dl = t * (neg D).x := congrArg V.x this
    have ey : (s + t) * (vo p o (i + 1)).y = t * (neg D).y := congrArg V.y this
    refine V.eq ?_ ?_
    · show (s + t) * (vo p o (i + 1)).x = dl + t * (neg D).x
      omega
    · exact ey
  have a1 : T (vo p o (i + 1)) (vo p o (i + 2)) = T ⟨dl + t * (neg D).x, t * (neg D).y⟩ ⟨dl + s * D.x, s * D.y⟩ := by
    rw [← k1, ← k2, T_smul hk, T_smulr hk]
  have a2 : T (vo p o (i + 2)) (vz p i s t (i + 2)) = T ⟨dl + s * D.x, s * D.y⟩ ⟨s * D.x, s * D.y⟩ := by
    rw [← k2, T_smul hk, z2]
  have a3 : T (vo p o (i + 1)) (vz p i s t (i + 1)) = T ⟨dl + t * (neg D).x, t * (neg D).y⟩ ⟨t * (neg D).x, t * (neg D).y⟩ := by
    rw [← k1, T_smul hk, z1]
  have ad : sgn D.y * D.y > 0 := sgn_abs hD
  have nD : ¬ (D.y = 0 ∧ D.x ≤ 0) := fun e => hD e.1
  have nD' : ¬ ((neg D).y = 0 ∧ (neg D).x ≤ 0) := fun e => hD (by have : -D.y = 0 := e.1; omega)
  have b1 : T ⟨dl + t * (neg D).x, t * (neg D).y⟩ ⟨dl + s * D.x, s * D.y⟩ = 2 * sgn D.y := by
    have e1 : dot ⟨sgn D.y * D.y, -(sgn D.y * D.x)⟩ ⟨dl + t * (neg D).x, t * (neg D).y⟩ = (sgn D.y * D.y) * dl := by unfold dot neg; grind
    have e2 : dot ⟨sgn D.y * D.y, -(sgn D.y * D.x)⟩ ⟨dl + s * D.x, s * D.y⟩ = (sgn D.y * D.y) * dl := by unfold dot; grind
    have pp := Int.mul_pos ad hx
    rw [TA (g := ⟨sgn D.y * D.y, -(sgn D.y * D.x)⟩) (by rw [e1]; exact pp) (by rw [e2]; exact pp)]
    show sgn (sgn D.y * D.y) * (kp (s * D.y) - kp (t * (neg D).y)) = _
    rw [sgn_pos ad]
    unfold kp
    rw [sgn_mul hs, sgn_mul ht]
    show 1 * (1 + sgn D.y - (1 + sgn (-D.y))) = _
    rw [sgn_opp]
    omega
  have flat : ∀ (q : Int) (E : V), 0 < q → ¬ (E.y = 0 ∧ E.x ≤ 0) → T ⟨dl + q * E.x, q * E.y⟩ ⟨q * E.x, q * E.y⟩ = 0 := fun q E hq hE => by
    have g1 := gd_d hE
    have e1 : dot (gd E) ⟨dl + q * E.x, q * E.y⟩ = dl + q * dot (gd E) E := by
      have := gd_r E hx
      unfold dot at this ⊢
      have e : dot (gd E) ⟨dl, 0⟩ = dl := gd_r E hx
      unfold dot at e
      simp only [Int.mul_zero, Int.add_zero] at e
      grind
    have e2 : dot (gd E) ⟨q * E.x, q * E.y⟩ = q * dot (gd E) E := by unfold dot; grind
    have := Int.mul_pos hq g1
    rw [TA (g := gd E) (by rw [e1]; omega) (by rw [e2]; omega)]
    show _ * (kp (q * E.y) - kp (q * E.y)) = 0
    rw [Int.sub_self, Int.mul_zero]
  rw [a2, flat s D hs nD, a3, flat t (neg D) ht nD'] at mv
  rw [a1, b1]
  rcases sgn_cases D.y with ⟨_, f⟩ | ⟨_, f⟩ | ⟨f, _⟩
  · rw [f]; left; omega
  · rw [f]; right; omega
  · exact absurd f hD
/-- Among edges that are hit one is hit first. -/
theorem first_hit (w : Nat → V) : ∀ m, (∃ j, j < m ∧ hit (w j) (w (j + 1))) → ∃ j, j < m ∧ hit (w j) (w (j + 1)) ∧ ∀ k, k < m → hit (w k) (w (k + 1)) → nn (w j) (w (j + 1)) * dd (w k) (w (k + 1)) ≤ nn (w k) (w (k + 1)) * dd (w j) (w (j + 1))
  | 0, ⟨j, hj, _⟩ => by omega
  | m + 1, ⟨j, hj, hh⟩ => by
    by_cases c : ∃ j, j < m ∧ hit (w j) (w (j + 1))
    · obtain ⟨i, hi, h1, h2⟩ := first_hit w m c
      by_cases c2 : hit (w m) (w (m + 1)) ∧ nn (w m) (w (m + 1)) * dd (w i) (w (i + 1)) < nn (w i) (w (i + 1)) * dd (w m) (w (m + 1))
      · refine ⟨m, by omega, c2.1, fun k hk hk2 => ?_⟩
        by_cases e : k = m
        · rw [e]; exact Int.le_refl _
        · have a := h2 k (by omega) hk2
          have di := dd_pos (w i) (w (i + 1))
          have dm := dd_pos (w m) (w (m + 1))
          have dk := dd_pos (w k) (w (k + 1))
          have p1 := Int.mul_le_mul_of_nonneg_right (Int.le_of_lt c2.2) (Int.le_of_lt dk)
          have p2 := Int.mul_le_mul_of_nonneg_right a (Int.le_of_lt dm)
          have p3 : nn (w m) (w (m + 1)) * dd (w k) (w (k + 1)) * dd (w i) (w (i + 1)) ≤ nn (w k) (w (k + 1)) * dd (w m) (w (m + 1)) * dd (w i) (w (i + 1)) := by
            have e1 : nn (w m) (w (m + 1)) * dd (w k) (w (k + 1)) * dd (w i) (w (i + 1)) = nn (w m) (w (m + 1)) * dd (w i) (w (i + 1)) * dd (w k) (w (k + 1)) := by grind
            have e2 : nn (w k) (w (k + 1)) * dd (w m) (w (m + 1)) * dd (w i) (w (i + 1)) = nn (w k) (w (k + 1)) * dd (w i) (w (i + 1)) * dd (w m) (w (m + 1)) := by grind
            have e3 : nn (w i) (w (i + 1)) * dd (w m) (w (m + 1)) * dd (w k) (w (k + 1)) = nn (w i) (w (i + 1)) * dd (w k) (w (k + 1)) * dd (w m) (w (m + 1)) := by grind
            rw [e1, e2]
            rw [e3] at p1
            omega
          exact Int.le_of_mul_le_mul_right p3 di
      · refine ⟨i, by omega, h1, fun k hk hk2 => ?_⟩
        by_cases e : k = m
        · subst e
          exact Int.not_lt.1 (fun hlt => c2 ⟨hk2, hlt⟩)
        · exact h2 k (by omega) hk2
    · refine ⟨m, by omega, ?_, fun k hk hk2 => ?_⟩
      · by_cases e : j = m
        · rw [← e]; exact hh
        · exact absurd ⟨j, by omega, hh⟩ c
      · by_cases e : k = m
        · rw [e]; exact Int.le_refl _
        · exact absurd ⟨k, by omega, hk2⟩ c
theorem H_per (h : Ring n p) (j : Nat) : H (vo p o) (j + n) = H (vo p o) j := by
  unfold H vo
  rw [show j + n + 1 = j + 1 + n by omega, h.per, h.per]
theorem Ring.hit_two (h : Ring n p) (hoff : ∀ j, ¬ On0 (vo p o j) (vo p o (j + 1))) (hh : ∃ j, j < n ∧ hit (vo p o j) (vo p o (j + 1))) :
    S (H (vo p o)) 0 n = C n p + 2 ∨ S (H (vo p o)) 0 n = C n p - 2 := by
  have hn := h.n3
  obtain ⟨j, hj, hit1, hmin0⟩ := first_hit (vo p o) n hh
  have hmin : ∀ k, hit (vo p o k) (vo p o (k + 1)) → nn (vo p o j) (vo p o (j + 1)) * dd (vo p o k) (vo p o (k + 1)) ≤ nn (vo p o k) (vo p o (k + 1)) * dd (vo p o j) (vo p o (j + 1)) := fun k hk => by
    have e1 : vo p o k = vo p o (k % n) := by unfold vo; rw [h.mod]
    have e2 : vo p o (k + 1) = vo p o (k % n + 1) := by
      unfold vo
      have : p (k + 1) = p (k % n + 1) := by
        rw [← h.mod (k + 1), ← h.mod (k % n + 1), Nat.mod_add_mod]
      rw [this]
    rw [e1, e2] at hk ⊢
    exact hmin0 (k % n) (Nat.mod_lt _ (by omega)) hk
  have dj := dd_pos (vo p o j) (vo p o (j + 1))
  -- a vertex
  have vert : ∀ q, (vo p o q).y = 0 → nn (vo p o j) (vo p o (j + 1)) = (vo p o q).x * dd (vo p o j) (vo p o (j + 1)) → 0 < (vo p o q).x → S (H (vo p o)) 0 n = C n p + 2 ∨ S (H (vo p o)) 0 n = C n p - 2 := fun q hq he hx => by
    have eq : vo p o (q + n - 1 + 1) = vo p o q := by
      unfold vo
      rw [show q + n - 1 + 1 = q + n by omega, h.per]
    have := h.at_vertex hoff (q + n - 1) (by rw [eq]; exact hq) (by rw [eq]; exact hx) (fun k hk => by
      rw [eq]
      have a := hmin k hk
      rw [he] at a
      have b : (vo p o q).x * dd (vo p o k) (vo p o (k + 1)) * dd (vo p o j) (vo p o (j + 1)) ≤ nn (vo p o k) (vo p o (k + 1)) * dd (vo p o j) (vo p o (j + 1)) := by
        have : (vo p o q).x * dd (vo p o k) (vo p o (k + 1)) * dd (vo p o j) (vo p o (j + 1)) = (vo p o q).x * dd (vo p o j) (vo p o (j + 1)) * dd (vo p o k) (vo p o (k + 1)) := by grind
        rw [this]
        exact a
      exact Int.le_of_mul_le_mul_right b dj)
    rw [S_turn (H_per h)] at this
    exact this
  obtain ⟨hm, hn0⟩ := hit1
  have ho := hoff j
  -- nothing lies at the point itself
  have nz : ∀ u v : V, ¬ On0 u v → u ≠ ⟨0, 0⟩ ∧ v ≠ ⟨0, 0⟩ := fun u v ho => by
    constructor
    · intro e
      exact ho ⟨by rw [e]; unfold crs; simp, by rw [e]; unfold dot; simp⟩
    · intro e
      exact ho ⟨by rw [e]; unfold crs; simp, by rw [e]; unfold dot; simp⟩
  obtain ⟨nu, nv⟩ := nz _ _ ho
  by_cases hy : (vo p o j).y = (vo p o (j + 1)).y
  · have y0 : (vo p o j).y = 0 := by unfold meets at hm; omega
    have y1 : (vo p o (j + 1)).y = 0 := by omega
    have en : nn (vo p o j) (vo p o (j + 1)) = min (vo p o j).x (vo p o (j + 1)).x := by unfold nn; rw [if_pos hy]
    have ed : dd (vo p o j) (vo p o (j + 1)) = 1 := by unfold dd; rw [if_pos hy]
    rw [en] at hn0
    have x0 : (vo p o j).x ≠ 0 := fun e => nu (V.eq e y0)
    have x1 : (vo p o (j + 1)).x ≠ 0 := fun e => nv (V.eq e y1)
    by_cases c : (vo p o j).x ≤ (vo p o (j + 1)).x
    · exact vert j y0 (by rw [en, ed]; omega) (by omega)
    · exact vert (j + 1) y1 (by rw [en, ed]; omega) (by omega)
  · have en : nn (vo p o j) (vo p o (j + 1)) = sgn ((vo p o (j + 1)).y - (vo p o j).y) * crs (vo p o j) (vo p o (j + 1)) := by unfold nn; rw [if_neg hy]
    have ed : dd (vo p o j) (vo p o (j + 1)) = sgn ((vo p o (j + 1)).y - (vo p o j).y) * ((vo p o (j + 1)).y - (vo p o j).y) := by unfold dd; rw [if_neg hy]
    by_cases y0 : (vo p o j).y = 0
    · have e : nn (vo p o j) (vo p o (j + 1)) = (vo p o j).x * dd (vo p o j) (vo p o (j + 1)) := by
        rw [en, ed]
        unfold crs
        rw [y0]
        grind
      have x0 : (vo p o j).x ≠ 0 := fun e => nu (V.eq e y0)
      refine vert j y0 e ?_
      rcases Int.lt_or_le 0 (vo p o j).x with c | c
      · exact c
      · have := Int.mul_neg_of_neg_of_pos (show (vo p o j).x < 0 by omega) dj
        omega
    · by_cases y1 : (vo p o (j + 1)).y = 0
      · have e : nn (vo p o j) (vo p o (j + 1)) = (vo p o (j + 1)).x * dd (vo p o j) (vo p o (j + 1)) := by
          rw [en, ed]
          unfold crs
          rw [y1]
          grind
        have x1 : (vo p o (j + 1)).x ≠ 0 := fun e => nv (V.eq e y1)
        refine vert (j + 1) y1 e ?_
        rcases Int.lt_or_le 0 (vo p o (j + 1)).x with c | c
        · exact c
        · have := Int.mul_neg_of_neg_of_pos (show (vo p o (j + 1)).x < 0 by omega) dj
          omega
      · -- inside the edge
        have eq1 : vo p o (j + n - 1 + 1) = vo p o j := by unfold vo; rw [show j + n - 1 + 1 = j + n by omega, h.per]
        have eq2 : vo p o (j + n - 1 + 2) = vo p o (j + 1) := by unfold vo; rw [show j + n - 1 + 2 = j + 1 + n by omega, h.per]
        obtain ⟨sg, hsg, hss, htt⟩ : ∃ sg : Int, sg = sgn ((vo p o (j + 1)).y - (vo p o j).y) ∧ 0 < sg * (vo p o (j + 1)).y ∧ 0 < sg * -(vo p o j).y := by
          refine ⟨_, rfl, ?_, ?_⟩
          · rcases sgn_cases ((vo p o (j + 1)).y - (vo p o j).y) with ⟨a, e⟩ | ⟨a, e⟩ | ⟨a, e⟩ <;> rw [e] <;> unfold meets at hm <;> omega
          · rcases sgn_cases ((vo p o (j + 1)).y - (vo p o j).y) with ⟨a, e⟩ | ⟨a, e⟩ | ⟨a, e⟩ <;> rw [e] <;> unfold meets at hm <;> omega
        have hc := off_crs ho hm hy
        have exn : sg * (vo p o (j + 1)).y * (vo p o j).x + sg * -(vo p o j).y * (vo p o (j + 1)).x = nn (vo p o j) (vo p o (j + 1)) := by
          rw [en, ← hsg]
          unfold crs
          grind
        have exd : sg * (vo p o (j + 1)).y + sg * -(vo p o j).y = dd (vo p o j) (vo p o (j + 1)) := by
          rw [ed, ← hsg]
          grind
        have npos : 0 < nn (vo p o j) (vo p o (j + 1)) := by
          have : nn (vo p o j) (vo p o (j + 1)) ≠ 0 := by
            rw [en]
            intro e
            rcases Int.mul_eq_zero.1 e with c | c
            · rcases sgn_cases ((vo p o (j + 1)).y - (vo p o j).y) with ⟨a, e⟩ | ⟨a, e⟩ | ⟨a, e⟩ <;> omega
            · exact hc c
          omega
        have := h.at_edge hoff (j + n - 1) hss htt (by rw [eq1, eq2]; grind) (by
          show (p (j + n - 1 + 2)).y - (p (j + n - 1 + 1)).y ≠ 0
          rw [show j + n - 1 + 2 = j + 1 + n by omega, show j + n - 1 + 1 = j + n by omega, h.per, h.per]
          have a : (vo p o j).y = (p j).y - o.y := rfl
          have b : (vo p o (j + 1)).y = (p (j + 1)).y - o.y := rfl
          omega) (by rw [eq1, eq2, exn]; exact npos) (fun k hk => by rw [eq1, eq2, exn, exd]; exact hmin k hk)
        rw [S_turn (H_per h)] at this
        exact this
end
/-- The edge crosses the row, on the right. -/
def rc (u v : V) : Bool := if (decide (0 < u.y) == decide (0 < v.y)) = true then false else if u.y < v.y then decide (0 < crs u v) else decide (crs u v < 0)
def dirc (u v : V) : Int := if rc u v = true then sgn (v.y - u.y) else 0
def lam (u : V) : Int := if u.y ≤ 0 then 1 else 0
def psi (u : V) : Int := if u.y = 0 then sgn u.x else 0
theorem edge_formula {u v : V} (h : ¬ On0 u v) : T u v = 4 * dirc u v - 2 * (lam u - lam v) - (psi u - psi v) := by
  have hoc := off_crs h
  have ku : kp u.y = 1 + sgn u.y := rfl
  have kv : kp v.y = 1 + sgn v.y := rfl
  unfold T dirc lam psi
  rw [ku, kv]
  rcases sgn_cases u.y with ⟨a, e⟩ | ⟨a, e⟩ | ⟨a, e⟩ <;> rcases sgn_cases v.y with ⟨b, f⟩ | ⟨b, f⟩ | ⟨b, f⟩ <;> rw [e, f]
  · have r : rc u v = false := by unfold rc; rw [if_pos (by simp [a, b])]
    rw [r, if_neg Bool.false_ne_true, if_neg (by omega), if_neg (by omega), if_neg (by omega), if_neg (by omega)]
    simp
  · have c := hoc (.inr ⟨by omega, by omega⟩) (by omega)
    have r : rc u v = decide (crs u v < 0) := by unfold rc; rw [if_neg (by simp [a]; omega), if_neg (by omega)]
    rw [r, sgn_neg (show v.y - u.y < 0 by omega), if_neg (show ¬ u.y ≤ 0 by omega), if_pos (show v.y ≤ 0 by omega), if_neg (show ¬ u.y = 0 by omega), if_neg (show ¬ v.y = 0 by omega)]
    rcases sgn_cases (crs u v) with ⟨q, g⟩ | ⟨q, g⟩ | ⟨q, g⟩
    · rw [g, if_neg (by simp; omega)]; simp
    · rw [g, if_pos (by simp; omega)]; simp
    · exact absurd q c
  · have c : crs u v = -(u.y * v.x) := by unfold crs; rw [b]; simp
    have hx : v.x ≠ 0 := fun e => h ⟨by rw [c, e]; simp, by unfold dot; rw [e, b]; simp⟩
    have r : rc u v = decide (crs u v < 0) := by unfold rc; rw [if_neg (by simp [a]; omega), if_neg (by omega)]
    rw [r, sgn_neg (show v.y - u.y < 0 by omega), if_neg (show ¬ u.y ≤ 0 by omega), if_pos (show v.y ≤ 0 by omega), if_neg (show ¬ u.y = 0 by omega), if_pos b]
    rw [c, sgn_opp, sgn_mul a]
    rcases sgn_cases v.x with ⟨q, g⟩ | ⟨q, g⟩ | ⟨q, g⟩
    · have := Int.mul_pos a q
      rw [g, if_pos (by simp; omega)]; simp
    · have := Int.mul_neg_of_pos_of_neg a q
      rw [g, if_neg (by simp; omega)]; simp
    · exact absurd q hx
  · have c := hoc (.inl ⟨by omega, by omega⟩) (by omega)
    have r : rc u v = decide (0 < crs u v) := by unfold rc; rw [if_neg (by simp [b]; omega), if_pos (by omega)]
    rw [r, sgn_pos (show 0 < v.y - u.y by omega), if_pos (show u.y ≤ 0 by omega), if_neg (show ¬ v.y ≤ 0 by omega), if_neg (show ¬ u.y = 0 by omega), if_neg (show ¬ v.y = 0 by omega)]
    rcases sgn_cases (crs u v) with ⟨q, g⟩ | ⟨q, g⟩ | ⟨q, g⟩
    · rw [g, if_pos (by simp; omega)]; simp
    · rw [g, if_neg (by simp; omega)]; simp
    · exact absurd q c
  · have r : rc u v = false := by unfold rc; rw [if_pos (by simp; omega)]
    rw [r, if_neg Bool.false_ne_true, if_pos (by omega), if_pos (by omega), if_neg (by omega), if_neg (by omega)]
    simp
  · have c : crs u v = -u.y * v.x := by unfold crs; rw [b]; grind
    have r : rc u v = false := by unfold rc; rw [if_pos (by simp; omega)]
    rw [r, if_neg Bool.false_ne_true, if_pos (show u.y ≤ 0 by omega), if_pos (show v.y ≤ 0 by omega), if_neg (show ¬ u.y = 0 by omega), if_pos b]
    rw [c, sgn_mul (by omega)]
    simp
  · have c : crs u v = v.y * u.x := by unfold crs; rw [a]; grind
    have hx : u.x ≠ 0 := fun e => h ⟨by rw [c, e]; simp, by unfold dot; rw [e, a]; simp⟩
    have r : rc u v = decide (0 < crs u v) := by unfold rc; rw [if_neg (by simp [b]; omega), if_pos (by omega)]
    rw [r, sgn_pos (show 0 < v.y - u.y by omega), if_pos (show u.y ≤ 0 by omega), if_neg (show ¬ v.y ≤ 0 by omega), if_pos a, if_neg (show ¬ v.y = 0 by omega)]
    rw [c, sgn_mul b]
    rcases sgn_cases u.x with ⟨q, g⟩ | ⟨q, g⟩ | ⟨q, g⟩
    · have := Int.mul_pos b q
      rw [g, if_pos (by simp; omega)]; simp
    · have := Int.mul_neg_of_pos_of_neg b q
      rw [g, if_neg (by simp; omega)]; simp
    · exact absurd q hx
  · have c : crs u v = -(-v.y * u.x) := by unfold crs; rw [a]; grind
    have r : rc u v = false := by unfold rc; rw [if_pos (by simp; omega)]
    rw [r, if_neg Bool.false_ne_true, if_pos (show u.y ≤ 0 by omega), if_pos (show v.y ≤ 0 by omega), if_pos a, if_neg (show ¬ v.y = 0 by omega)]
    rw [c, sgn_opp, sgn_mul (by omega)]
    simp
  · have r : rc u v = false := by unfold rc; rw [if_pos (by simp; omega)]
    rw [r, if_neg Bool.false_ne_true, if_pos (show u.y ≤ 0 by omega), if_pos (show v.y ≤ 0 by omega), if_pos a, if_pos b]
    have same : sgn u.x = sgn v.x := by
      have hd : 0 < u.x * v.x := by
        rcases Int.lt_or_le 0 (u.x * v.x) with c | c
        · exact c
        · exact absurd ⟨by unfold crs; rw [a, b]; simp, by unfold dot; rw [a, b]; simpa using c⟩ h
      rcases sgn_cases u.x with ⟨c, g⟩ | ⟨c, g⟩ | ⟨c, g⟩ <;> rcases sgn_cases v.x with ⟨d, k⟩ | ⟨d, k⟩ | ⟨d, k⟩ <;> rw [g, k]
      · have := Int.mul_neg_of_pos_of_neg c d; omega
      · rw [d, Int.mul_zero] at hd; omega
      · have := Int.mul_neg_of_neg_of_pos c d; omega
      · rw [d, Int.mul_zero] at hd; omega
      · rw [c, Int.zero_mul] at hd; omega
      · rw [c, Int.zero_mul] at hd; omega
    rw [same]
    simp
/-- Odd or even. -/
def par (w : Nat → V) : Nat → Bool
  | 0 => false
  | c + 1 => par w c != rc (w c) (w (c + 1))
theorem par_mod (w : Nat → V) : ∀ c, (S (fun j => dirc (w j) (w (j + 1))) 0 c) % 2 = if par w c = true then 1 else 0
  | 0 => rfl
  | c + 1 => by
    have ih := par_mod w c
    rw [S, par, Nat.zero_add]
    have hd : (rc (w c) (w (c + 1)) = true → dirc (w c) (w (c + 1)) = 1 ∨ dirc (w c) (w (c + 1)) = -1) ∧ (rc (w c) (w (c + 1)) = false → dirc (w c) (w (c + 1)) = 0) := by
      unfold dirc
      constructor
      · intro hr
        rw [if_pos hr]
        have hy : (w (c + 1)).y ≠ (w c).y := fun e => by
          unfold rc at hr
          rw [if_pos (by rw [e]; simp)] at hr
          cases hr
        rcases sgn_cases ((w (c + 1)).y - (w c).y) with ⟨_, g⟩ | ⟨_, g⟩ | ⟨q, _⟩
        · exact .inl g
        · exact .inr g
        · omega
      · intro hr
        rw [hr, if_neg Bool.false_ne_true]
    cases hp : par w c <;> cases hr : rc (w c) (w (c + 1)) <;> rw [hp] at ih <;> simp at ih ⊢
    · rw [hd.2 hr]; omega
    · rcases hd.1 hr with e | e <;> rw [e] <;> omega
    · rw [hd.2 hr]; omega
    · rcases hd.1 hr with e | e <;> rw [e] <;> omega
theorem sum_formula {w : Nat → V} (h : ∀ j, ¬ On0 (w j) (w (j + 1))) : ∀ c, S (H w) 0 c = 4 * S (fun j => dirc (w j) (w (j + 1))) 0 c - 2 * (lam (w 0) - lam (w c)) - (psi (w 0) - psi (w c))
  | 0 => by simp [S]
  | c + 1 => by
    rw [S, S, sum_formula h c, Nat.zero_add]
    have := edge_formula (h c)
    unfold H
    omega
section
variable {n : Nat} {p : Nat → V} {o : V}
theorem Ring.off_value (h : Ring n p) (hoff : ∀ j, ¬ On0 (vo p o j) (vo p o (j + 1))) : S (H (vo p o)) 0 n = if par (vo p o) n = true then 2 * C n p else 0 := by
  have f := sum_formula hoff n
  have wn : vo p o n = vo p o 0 := by
    unfold vo
    have := h.per 0
    rw [Nat.zero_add] at this
    rw [this]
  rw [wn] at f
  have m := par_mod (vo p o) n
  have c2 := h.two
  by_cases hh : ∃ j, j < n ∧ hit (vo p o j) (vo p o (j + 1))
  · have two := h.hit_two hoff hh
    split
    · rename_i c
      rw [if_pos c] at m
      omega
    · rename_i c
      rw [if_neg c] at m
      omega
  · -- no edge is crossed
    have no : ∀ c, c ≤ n → S (fun j => dirc (vo p o j) (vo p o (j + 1))) 0 c = 0 ∧ par (vo p o) c = false := by
      intro c
      induction c with
      | zero => intro _; exact ⟨rfl, rfl⟩
      | succ c ih =>
        intro hc
        obtain ⟨i1, i2⟩ := ih (by omega)
        have hr : rc (vo p o c) (vo p o (c + 1)) = false := by
          rw [← Bool.not_eq_true]
          intro hr
          refine hh ⟨c, by omega, ?_, ?_⟩
          · unfold rc at hr
            unfold meets
            by_cases a : 0 < (vo p o c).y <;> by_cases b : 0 < (vo p o (c + 1)).y
            · rw [if_pos (by simp [a, b])] at hr; cases hr
            · omega
            · omega
            · rw [if_pos (by simp [a, b])] at hr; cases hr
          · unfold rc at hr
            unfold nn
            split at hr
            · cases hr
            · rename_i hne
              have hy : (vo p o c).y ≠ (vo p o (c + 1)).y := fun e => hne (by rw [e]; simp)
              rw [if_neg hy]
              split at hr
              · rename_i lt
                rw [sgn_pos (by omega)]
                have := of_decide_eq_true hr
                omega
              · rename_i lt
                rw [sgn_neg (by omega)]
                have := of_decide_eq_true hr
                omega
        rw [S, par, i1, i2, hr, Nat.zero_add]
        unfold dirc
        rw [hr]
        exact ⟨rfl, rfl⟩
    obtain ⟨i1, i2⟩ := no n (Nat.le_refl _)
    rw [i2, if_neg Bool.false_ne_true]
    omega
/-- At a vertex. -/
theorem Ring.vertex_value (h : Ring n p) (i : Nat) : S (H (vo p (p (i + 1)))) 0 n = C n p - tau p i := by
  obtain ⟨m, rfl⟩ : ∃ m, n = m + 3 := ⟨n - 3, by have := h.n3; omega⟩
  rw [← S_turn (H_per h) i, S_head, S_head]
  have z : vo p (p (i + 1)) (i + 1) = ⟨0, 0⟩ := V.eq (show (p (i + 1)).x - (p (i + 1)).x = 0 by omega) (show (p (i + 1)).y - (p (i + 1)).y = 0 by omega)
  have e1 : H (vo p (p (i + 1))) i = 0 := by
    unfold H
    rw [z]
    exact T_par (by unfold crs; simp)
  have e2 : H (vo p (p (i + 1))) (i + 1) = 0 := by
    unfold H
    rw [z]
    exact T_par (by unfold crs; simp)
  have hc := h.all i
  have hN : N (m + 3) p (i + 1) = S (H (vo p (p (i + 1)))) (i + 2) (m + 1) := rfl
  rw [e1, e2, show i + 1 + 1 = i + 2 by omega, ← hN]
  omega
/-- Inside an edge. -/
theorem Ring.edge_value (h : Ring n p) (i : Nat) (hc : crs (vo p o (i + 1)) (vo p o (i + 2)) = 0) (hd : dot (vo p o (i + 1)) (vo p o (i + 2)) < 0) :
    S (H (vo p o)) 0 n = C n p ∧ ∀ j, p j ≠ o := by
  obtain ⟨m, rfl⟩ : ∃ m, n = m + 3 := ⟨n - 3, by have := h.n3; omega⟩
  obtain ⟨s, hs_, hs⟩ : ∃ s, s = dot (vo p o (i + 2)) (vo p o (i + 2)) ∧ 0 < s := by
    refine ⟨_, rfl, ?_⟩
    have a := sq_nonneg (vo p o (i + 2)).x
    have b := sq_nonneg (vo p o (i + 2)).y
    have ne : (vo p o (i + 2)).x ≠ 0 ∨ (vo p o (i + 2)).y ≠ 0 := by
      by_cases e : (vo p o (i + 2)).x = 0
      · right
        intro e2
        unfold dot at hd
        rw [e, e2] at hd
        simp at hd
      · exact .inl e
    unfold dot
    rcases ne with e | e
    · have := sq_pos e; omega
    · have := sq_pos e; omega
  obtain ⟨t, ht_, ht⟩ : ∃ t, t = -dot (vo p o (i + 1)) (vo p o (i + 2)) ∧ 0 < t := ⟨_, rfl, by omega⟩
  have hx : s * (vo p o (i + 1)).x + t * (vo p o (i + 2)).x = 0 := by
    have : s * (vo p o (i + 1)).x + t * (vo p o (i + 2)).x = crs (vo p o (i + 1)) (vo p o (i + 2)) * (vo p o (i + 2)).y := by
      rw [hs_, ht_]
      unfold dot crs
      grind
    rw [this, hc, Int.zero_mul]
  have hy : s * (vo p o (i + 1)).y + t * (vo p o (i + 2)).y = 0 := by
    have : s * (vo p o (i + 1)).y + t * (vo p o (i + 2)).y = -(crs (vo p o (i + 1)) (vo p o (i + 2)) * (vo p o (i + 2)).x) := by
      rw [hs_, ht_]
      unfold dot crs
      grind
    rw [this, hc, Int.zero_mul]
    rfl
  have hk : 0 < s + t := by omega
  have hrel : ∀ j, vz p i s t j = ⟨(s + t) * (vo p o j).x, (s + t) * (vo p o j).y⟩ := fun j => by
    have ex : s * ((p (i + 1)).x - o.x) + t * ((p (i + 2)).x - o.x) = 0 := hx
    have ey : s * ((p (i + 1)).y - o.y) + t * ((p (i + 2)).y - o.y) = 0 := hy
    refine V.eq ?_ ?_
    · show (s + t) * (p j).x - (s * (p (i + 1)).x + t * (p (i + 2)).x) = (s + t) * ((p j).x - o.x)
      grind
    · show (s + t) * (p j).y - (s * (p (i + 1)).y + t * (p (i + 2)).y) = (s + t) * ((p j).y - o.y)
      grind
  have hz := h.inside_edge i hs ht
  have hH : ∀ j, H (vz p i s t) j = H (vo p o) j := fun j => by
    unfold H
    rw [hrel j, hrel (j + 1), T_smul hk, T_smulr hk]
  constructor
  · rw [← S_turn (H_per h) (i + 1), S_head]
    have e1 : H (vo p o) (i + 1) = 0 := T_par hc
    rw [e1, ← S_congr (fun j _ _ => hH j)]
    rw [show m + 3 - 1 = m + 2 by omega] at hz
    rw [show i + 1 + 1 = i + 2 by omega, hz]
    omega
  · intro j e
    -- some copy of j is an end of an edge apart from o
    have key : ∀ q, i + 2 ≤ q → q ≤ i + (m + 3) → p q ≠ o ∧ p (q + 1) ≠ o := fun q h1 h2 => by
      obtain ⟨g, g1, g2⟩ := h.vz_out i hs ht q h1 h2
      rw [hrel] at g1 g2
      constructor
      · intro e
        have : vo p o q = ⟨0, 0⟩ := V.eq (show (p q).x - o.x = 0 by rw [e]; omega) (show (p q).y - o.y = 0 by rw [e]; omega)
        rw [this] at g1
        unfold dot at g1
        simp at g1
      · intro e
        have : vo p o (q + 1) = ⟨0, 0⟩ := V.eq (show (p (q + 1)).x - o.x = 0 by rw [e]; omega) (show (p (q + 1)).y - o.y = 0 by rw [e]; omega)
        rw [this] at g2
        unfold dot at g2
        simp at g2
    -- a representative of j among i + 2 .. i + n + 1
    obtain ⟨q, h1, h2, hq⟩ : ∃ q, i + 2 ≤ q ∧ q ≤ i + (m + 3) + 1 ∧ p q = p j := by
      refine ⟨i + 2 + (j + (m + 3) * (i + 2) - (i + 2)) % (m + 3), by omega, ?_, ?_⟩
      · have := Nat.mod_lt (j + (m + 3) * (i + 2) - (i + 2)) (show 0 < m + 3 by omega)
        omega
      · rw [← h.mod (i + 2 + _), ← h.mod j]
        congr 1
        rw [Nat.add_mod_mod]
        have : i + 2 ≤ (m + 3) * (i + 2) := by
          have := Nat.mul_le_mul_right (i + 2) (show 1 ≤ m + 3 by omega)
          omega
        rw [show i + 2 + (j + (m + 3) * (i + 2) - (i + 2)) = j + (m + 3) * (i + 2) by omega, Nat.add_mul_mod_self_left]
    rw [← hq] at e
    by_cases c : q ≤ i + (m + 3)
    · exact (key q h1 c).1 e
    · have := (key (q - 1) (by omega) (by omega)).2
      rw [show q - 1 + 1 = q by omega] at this
      exact this e
end
/-- The turns at the vertices that lie at o. -/
def at0 (n : Nat) (p : Nat → V) (o : V) (j : Nat) : Int := if (p j).x = o.x ∧ (p j).y = o.y then tau p (j + n - 1) else 0
def see (n : Nat) (p : Nat → V) (o : V) : Int := S (H (vo p o)) 0 n + S (at0 n p o) 0 n
theorem S_zero {f : Nat → Int} : ∀ {c a : Nat}, (∀ j, a ≤ j → j < a + c → f j = 0) → S f a c = 0
  | 0, _, _ => rfl
  | c + 1, a, h => by
    rw [S, S_zero (fun j h1 h2 => h j h1 (by omega)), h (a + c) (by omega) (by omega)]
    rfl
theorem S_one {f : Nat → Int} {q : Nat} : ∀ {c : Nat}, q < c → (∀ j, j < c → j ≠ q → f j = 0) → S f 0 c = f q
  | 0, h, _ => by omega
  | c + 1, h, hz => by
    rw [S, Nat.zero_add]
    by_cases e : q = c
    · rw [S_zero (fun j h1 h2 => hz j (by omega) (by omega)), e]
      omega
    · rw [S_one (by omega) (fun j h1 h2 => hz j (by omega) h2), hz c (by omega) (Ne.symm e)]
      omega
section
variable {n : Nat} {p : Nat → V} {o : V}
theorem Ring.distinct (h : Ring n p) {i j : Nat} (hi : i < n) (hj : j < n) (hne : i ≠ j) : p i ≠ p j := by
  intro e
  have key : ∀ i j, i < j → j < n → p i = p j → False := fun i j hij hj e => by
    obtain ⟨g, hg⟩ := h.ne (i + n - 1) (j + n) (by omega) (by omega)
    rw [h.per, show i + n - 1 + 1 = i + n by omega, h.per, e] at hg
    rw [dot_sub_self] at hg
    omega
  rcases Nat.lt_or_gt_of_ne hne with c | c
  · exact key i j c hj e
  · exact key j i c hi e.symm
theorem Ring.see_vertex (h : Ring n p) (q : Nat) (hq : q < n) (ho : p q = o) : see n p o = C n p := by
  have hn := h.n3
  unfold see
  have v := h.vertex_value (q + n - 1)
  have e : p (q + n - 1 + 1) = o := by rw [show q + n - 1 + 1 = q + n by omega, h.per]; exact ho
  rw [e] at v
  rw [v, S_one hq (fun j hj hne => ?_)]
  · unfold at0
    rw [if_pos ⟨by rw [ho], by rw [ho]⟩]
    omega
  · unfold at0
    rw [if_neg (fun c => h.distinct hj hq hne ((V.eq c.1 c.2).trans ho.symm))]
theorem Ring.see_on (h : Ring n p) (j : Nat) (hon : On0 (vo p o j) (vo p o (j + 1))) : see n p o = C n p := by
  have hn := h.n3
  have vx : ∀ q, (vo p o q).x = 0 → (vo p o q).y = 0 → see n p o = C n p := fun q hx hy => by
    refine h.see_vertex (q % n) (Nat.mod_lt _ (by omega)) ?_
    rw [h.mod]
    have a : (p q).x - o.x = 0 := hx
    have b : (p q).y - o.y = 0 := hy
    exact V.eq (by omega) (by omega)
  obtain ⟨hc, hd⟩ := hon
  by_cases hd0 : dot (vo p o j) (vo p o (j + 1)) < 0
  · have q1 : vo p o (j + n - 1 + 1) = vo p o j := by unfold vo; rw [show j + n - 1 + 1 = j + n by omega, h.per]
    have q2 : vo p o (j + n - 1 + 2) = vo p o (j + 1) := by unfold vo; rw [show j + n - 1 + 2 = j + 1 + n by omega, h.per]
    obtain ⟨e1, e2⟩ := h.edge_value (o := o) (j + n - 1) (by rw [q1, q2]; exact hc) (by rw [q1, q2]; exact hd0)
    unfold see
    rw [e1, S_zero (fun k _ _ => ?_)]
    · omega
    · unfold at0
      rw [if_neg (fun c => e2 k (V.eq c.1 c.2))]
  · -- both are 0: one of the ends lies at o
    have hz : dot (vo p o j) (vo p o (j + 1)) = 0 := by omega
    have id : dot (vo p o j) (vo p o j) * dot (vo p o (j + 1)) (vo p o (j + 1)) = crs (vo p o j) (vo p o (j + 1)) * crs (vo p o j) (vo p o (j + 1)) + dot (vo p o j) (vo p o (j + 1)) * dot (vo p o j) (vo p o (j + 1)) := by unfold dot crs; grind
    rw [hc, hz] at id
    have nz : ∀ u : V, dot u u = 0 → u.x = 0 ∧ u.y = 0 := fun u hu => by
      unfold dot at hu
      have a := sq_nonneg u.x
      have b := sq_nonneg u.y
      constructor
      · by_cases c : u.x = 0
        · exact c
        · have := sq_pos c; omega
      · by_cases c : u.y = 0
        · exact c
        · have := sq_pos c; omega
    rcases Int.mul_eq_zero.1 (show dot (vo p o j) (vo p o j) * dot (vo p o (j + 1)) (vo p o (j + 1)) = 0 by rw [id]; rfl) with c | c
    · exact vx j (nz _ c).1 (nz _ c).2
    · exact vx (j + 1) (nz _ c).1 (nz _ c).2
theorem Ring.see_off (h : Ring n p) (hoff : ∀ j, ¬ On0 (vo p o j) (vo p o (j + 1))) : see n p o = if par (vo p o) n = true then 2 * C n p else 0 := by
  unfold see
  rw [h.off_value hoff, S_zero (f := at0 n p o) (fun k _ _ => ?_), Int.add_zero]
  unfold at0
  rw [if_neg (fun c => hoff k ?_)]
  have z : vo p o k = ⟨0, 0⟩ := V.eq (show (p k).x - o.x = 0 by omega) (show (p k).y - o.y = 0 by omega)
  rw [z]
  exact ⟨by unfold crs; simp, by unfold dot; simp⟩
end
/-! ### Sums over whole numbers -/
def Z (f : Int → Int) (lo : Int) : Nat → Int
  | 0 => 0
  | c + 1 => Z f lo c + f (lo + c)
theorem Z_congr {f g : Int → Int} {lo : Int} : ∀ {c : Nat}, (∀ x, lo ≤ x → x < lo + c → f x = g x) → Z f lo c = Z g lo c
  | 0, _ => rfl
  | c + 1, h => by rw [Z, Z, Z_congr (fun x h1 h2 => h x h1 (by omega)), h (lo + c) (by omega) (by omega)]
theorem Z_add (f g : Int → Int) (lo : Int) : ∀ c, Z (fun x => f x + g x) lo c = Z f lo c + Z g lo c
  | 0 => rfl
  | c + 1 => by rw [Z, Z, Z, Z_add f g lo c]; omega
theorem Z_mul (k : Int) (f : Int → Int) (lo : Int) : ∀ c, Z (fun x => k * f x) lo c = k * Z f lo c
  | 0 => by rw [Z, Z, Int.mul_zero]
  | c + 1 => by rw [Z, Z, Z_mul k f lo c, Int.mul_add]
theorem Z_neg (f : Int → Int) (lo : Int) : ∀ c, Z (fun x => -f x) lo c = -Z f lo c
  | 0 => rfl
  | c + 1 => by rw [Z, Z, Z_neg f lo c]; omega
theorem Z_const {f : Int → Int} {k lo : Int} : ∀ {c : Nat}, (∀ x, lo ≤ x → x < lo + c → f x = k) → Z f lo c = k * c
  | 0, _ => by rw [Z]; simp
  | c + 1, h => by
    rw [Z, Z_const (fun x h1 h2 => h x h1 (by omega)), h (lo + c) (by omega) (by omega)]
    rw [show ((c + 1 : Nat) : Int) = (c : Int) + 1 by omega, Int.mul_add, Int.mul_one]
theorem Z_head (f : Int → Int) (lo : Int) : ∀ c, Z f lo (c + 1) = f lo + Z f (lo + 1) c
  | 0 => by simp [Z]
  | c + 1 => by
    rw [Z, Z_head f lo c, Z, show lo + ((c + 1 : Nat) : Int) = lo + 1 + (c : Int) by omega]
    omega
theorem Z_split (f : Int → Int) (lo : Int) (c : Nat) : ∀ d, Z f lo (c + d) = Z f lo c + Z f (lo + c) d
  | 0 => by simp [Z]
  | d + 1 => by
    rw [show c + (d + 1) = c + d + 1 by omega, Z, Z_split f lo c d, Z, show lo + ((c + d : Nat) : Int) = lo + (c : Int) + (d : Int) by omega]
    omega
theorem Z_rev (f : Int → Int) (m lo : Int) : ∀ c : Nat, Z f lo c = Z (fun x => f (m - x)) (m - lo - c + 1) c
  | 0 => rfl
  | c + 1 => by
    rw [Z, Z_rev f m lo c, Z_head, show m - (m - lo - ((c + 1 : Nat) : Int) + 1) = lo + c by omega, show m - lo - ((c + 1 : Nat) : Int) + 1 + 1 = m - lo - c + 1 by omega]
    omega
theorem Z_S (f : Nat → Int → Int) (lo : Int) (w : Nat) : ∀ c, Z (fun x => S (fun j => f j x) 0 c) lo w = S (fun j => Z (f j) lo w) 0 c
  | 0 => by
    show Z (fun _ => 0) lo w = 0
    rw [Z_const (k := 0) (fun _ _ _ => rfl)]
    omega
  | c + 1 => by
    show Z (fun x => S (fun j => f j x) 0 c + f (0 + c) x) lo w = _
    rw [Z_add, Z_S f lo w c, S]
/-- Over a box. -/
def Bx (f : Int → Int → Int) (X0 Y0 : Int) (W Hh : Nat) : Int := Z (fun y => Z (fun x => f x y) X0 W) Y0 Hh
theorem Bx_congr {f g : Int → Int → Int} {X0 Y0 : Int} {W Hh : Nat} (h : ∀ x y, X0 ≤ x → x < X0 + W → Y0 ≤ y → y < Y0 + Hh → f x y = g x y) : Bx f X0 Y0 W Hh = Bx g X0 Y0 W Hh :=
  Z_congr (fun y h1 h2 => Z_congr (fun x h3 h4 => h x y h3 h4 h1 h2))
theorem Bx_add (f g : Int → Int → Int) (X0 Y0 : Int) (W Hh : Nat) : Bx (fun x y => f x y + g x y) X0 Y0 W Hh = Bx f X0 Y0 W Hh + Bx g X0 Y0 W Hh := by
  unfold Bx
  rw [← Z_add]
  exact Z_congr (fun y _ _ => Z_add _ _ _ _)
theorem Bx_mul (k : Int) (f : Int → Int → Int) (X0 Y0 : Int) (W Hh : Nat) : Bx (fun x y => k * f x y) X0 Y0 W Hh = k * Bx f X0 Y0 W Hh := by
  unfold Bx
  rw [← Z_mul]
  exact Z_congr (fun y _ _ => Z_mul _ _ _ _)
theorem Bx_S (f : Nat → Int → Int → Int) (X0 Y0 : Int) (W Hh : Nat) (c : Nat) : Bx (fun x y => S (fun j => f j x y) 0 c) X0 Y0 W Hh = S (fun j => Bx (f j) X0 Y0 W Hh) 0 c := by
  unfold Bx
  rw [← Z_S]
  exact Z_congr (fun y _ _ => Z_S _ _ _ _)
/-- One point of a box. -/
theorem Z_point (k a lo : Int) : ∀ c : Nat, lo ≤ a → a < lo + c → Z (fun x => if a = x then k else 0) lo c = k
  | 0, h1, h2 => by omega
  | c + 1, h1, h2 => by
    rw [Z]
    by_cases e : a = lo + c
    · rw [if_pos e, Z_const (k := 0) (fun x h3 h4 => if_neg (by omega))]
      omega
    · rw [if_neg e, Z_point k a lo c h1 (by omega)]
      omega
theorem Bx_point (k : Int) (a : V) {X0 Y0 : Int} {W Hh : Nat} (hx : X0 ≤ a.x ∧ a.x < X0 + W) (hy : Y0 ≤ a.y ∧ a.y < Y0 + Hh) : Bx (fun x y => if a.x = x ∧ a.y = y then k else 0) X0 Y0 W Hh = k := by
  unfold Bx
  have : ∀ y, Z (fun x => if a.x = x ∧ a.y = y then k else 0) X0 W = if a.y = y then k else 0 := fun y => by
    by_cases e : a.y = y
    · rw [if_pos e]
      rw [Z_congr (g := fun x => if a.x = x then k else 0) (fun x _ _ => by
        by_cases c : a.x = x
        · rw [if_pos ⟨c, e⟩, if_pos c]
        · rw [if_neg (fun h => c h.1), if_neg c])]
      exact Z_point k a.x X0 W hx.1 hx.2
    · rw [if_neg e, Z_const (k := 0) (fun x _ _ => if_neg (fun h => e h.2))]
      omega
  rw [Z_congr (fun y _ _ => this y)]
  exact Z_point k a.y Y0 Hh hy.1 hy.2
/-! ### One edge, seen from a box -/
def q (a b : V) (x y : Int) : Int := crs (sub a ⟨x, y⟩) (sub b ⟨x, y⟩)
theorem q_eq (a b : V) (x y : Int) : q a b x y = (a.x - x) * (b.y - y) + (y - a.y) * (b.x - x) := by unfold q crs sub; grind
theorem row_sum {a b : V} {X0 : Int} {W : Nat} (hab : a.y < b.y) (ha : X0 ≤ a.x ∧ a.x < X0 + W) (hb : X0 ≤ b.x ∧ b.x < X0 + W) (y : Int) (h1 : a.y ≤ y) (h2 : y ≤ b.y) :
    Z (fun x => sgn (q a b x y)) X0 W + Z (fun x => sgn (q a b x (a.y + b.y - y))) X0 W = 2 * (a.x + b.x - 2 * X0 - (W - 1)) := by
  obtain ⟨A, hA⟩ : ∃ A, A = min a.x b.x := ⟨_, rfl⟩
  obtain ⟨B, hB⟩ : ∃ B, B = max a.x b.x := ⟨_, rfl⟩
  have hAB : A + B = a.x + b.x := by omega
  obtain ⟨w1, hw1⟩ : ∃ w : Nat, (w : Int) = A - X0 := ⟨(A - X0).toNat, by omega⟩
  obtain ⟨w2, hw2⟩ : ∃ w : Nat, (w : Int) = B - A + 1 := ⟨(B - A + 1).toNat, by omega⟩
  obtain ⟨w3, hw3⟩ : ∃ w : Nat, (w : Int) = X0 + W - 1 - B := ⟨(X0 + W - 1 - B).toNat, by omega⟩
  have hW : W = w1 + w2 + w3 := by omega
  have lo : ∀ y x, a.y ≤ y → y ≤ b.y → x < A → sgn (q a b x y) = 1 := fun y x h1 h2 hx => by
    refine sgn_pos ?_
    rw [q_eq]
    have p1 := Int.mul_nonneg (show 0 ≤ a.x - x by omega) (show 0 ≤ b.y - y by omega)
    have p2 := Int.mul_nonneg (show 0 ≤ y - a.y by omega) (show 0 ≤ b.x - x by omega)
    by_cases c : y < b.y
    · have := Int.mul_pos (show 0 < a.x - x by omega) (show 0 < b.y - y by omega)
      omega
    · have := Int.mul_pos (show 0 < y - a.y by omega) (show 0 < b.x - x by omega)
      omega
  have hi : ∀ y x, a.y ≤ y → y ≤ b.y → B < x → sgn (q a b x y) = -1 := fun y x h1 h2 hx => by
    refine sgn_neg ?_
    rw [q_eq]
    have p1 := Int.mul_nonneg (show 0 ≤ x - a.x by omega) (show 0 ≤ b.y - y by omega)
    have p2 := Int.mul_nonneg (show 0 ≤ y - a.y by omega) (show 0 ≤ x - b.x by omega)
    have e1 : (a.x - x) * (b.y - y) = -((x - a.x) * (b.y - y)) := by grind
    have e2 : (y - a.y) * (b.x - x) = -((y - a.y) * (x - b.x)) := by grind
    rw [e1, e2]
    by_cases c : y < b.y
    · have := Int.mul_pos (show 0 < x - a.x by omega) (show 0 < b.y - y by omega)
      omega
    · have := Int.mul_pos (show 0 < y - a.y by omega) (show 0 < x - b.x by omega)
      omega
  have parts : ∀ y, a.y ≤ y → y ≤ b.y → Z (fun x => sgn (q a b x y)) X0 W = w1 + Z (fun x => sgn (q a b x y)) A w2 - w3 := fun y h1 h2 => by
    rw [hW, Z_split, Z_split, Z_const (k := 1) (fun x h3 h4 => lo y x h1 h2 (by omega)), Z_const (k := -1) (lo := X0 + ((w1 + w2 : Nat) : Int)) (fun x h3 h4 => hi y x h1 h2 (by omega))]
    rw [show X0 + (w1 : Int) = A by omega]
    omega
  rw [parts y h1 h2, parts (a.y + b.y - y) (by omega) (by omega)]
  have rev := Z_rev (fun x => sgn (q a b x (a.y + b.y - y))) (a.x + b.x) A w2
  rw [show a.x + b.x - A - (w2 : Int) + 1 = A by omega] at rev
  have neg_ : Z (fun x => sgn (q a b (a.x + b.x - x) (a.y + b.y - y))) A w2 = -Z (fun x => sgn (q a b x y)) A w2 := by
    rw [← Z_neg]
    refine Z_congr (fun x _ _ => ?_)
    have : q a b (a.x + b.x - x) (a.y + b.y - y) = -q a b x y := by rw [q_eq, q_eq]; grind
    rw [this, sgn_opp]
  rw [rev, neg_]
  omega
def om (a b : V) (y : Int) : Int := ((kp (b.y - y) - kp (a.y - y)).natAbs : Int)
theorem T_om (a b : V) (x y : Int) : T (sub a ⟨x, y⟩) (sub b ⟨x, y⟩) = om a b y * sgn (q a b x y) := rfl
theorem edge_up {a b : V} {X0 Y0 : Int} {W Hh : Nat} (hab : a.y < b.y) (ha : X0 ≤ a.x ∧ a.x < X0 + W) (hb : X0 ≤ b.x ∧ b.x < X0 + W) (hay : Y0 ≤ a.y) (hby : b.y < Y0 + Hh) :
    Bx (fun x y => T (sub a ⟨x, y⟩) (sub b ⟨x, y⟩)) X0 Y0 W Hh = 2 * (b.y - a.y) * (a.x + b.x - 2 * X0 - (W - 1)) := by
  obtain ⟨r, hr⟩ : ∃ r : Int → Int, r = fun y => Z (fun x => sgn (q a b x y)) X0 W := ⟨_, rfl⟩
  have inner : ∀ y, Z (fun x => T (sub a ⟨x, y⟩) (sub b ⟨x, y⟩)) X0 W = om a b y * r y := fun y => by
    rw [hr, ← Z_mul]
    rfl
  unfold Bx
  rw [Z_congr (fun y _ _ => inner y)]
  have omk : ∀ y, kp (b.y - y) = 1 + sgn (b.y - y) ∧ kp (a.y - y) = 1 + sgn (a.y - y) := fun y => ⟨rfl, rfl⟩
  have om0 : ∀ y, (y < a.y ∨ b.y < y) → om a b y = 0 := fun y h => by
    unfold om
    obtain ⟨k1, k2⟩ := omk y
    rw [k1, k2]
    rcases h with h | h
    · rw [sgn_pos (by omega), sgn_pos (by omega)]; simp
    · rw [sgn_neg (by omega), sgn_neg (by omega)]; simp
  have om2 : ∀ y, a.y < y → y < b.y → om a b y = 2 := fun y h1 h2 => by
    unfold om
    obtain ⟨k1, k2⟩ := omk y
    rw [k1, k2, sgn_pos (by omega), sgn_neg (by omega)]
    rfl
  have oma : om a b a.y = 1 := by
    unfold om
    obtain ⟨k1, k2⟩ := omk a.y
    rw [k1, k2, sgn_pos (by omega), Int.sub_self]
    rfl
  have omb : om a b b.y = 1 := by
    unfold om
    obtain ⟨k1, k2⟩ := omk b.y
    rw [k1, k2, sgn_neg (show a.y - b.y < 0 by omega), Int.sub_self]
    rfl
  obtain ⟨h1, e1⟩ : ∃ w : Nat, (w : Int) = a.y - Y0 := ⟨(a.y - Y0).toNat, by omega⟩
  obtain ⟨d, e2⟩ : ∃ w : Nat, (w : Int) = b.y - a.y - 1 := ⟨(b.y - a.y - 1).toNat, by omega⟩
  obtain ⟨h3, e3⟩ : ∃ w : Nat, (w : Int) = Y0 + Hh - 1 - b.y := ⟨(Y0 + Hh - 1 - b.y).toNat, by omega⟩
  have hH : Hh = h1 + (d + 2) + h3 := by omega
  rw [hH, Z_split, Z_split, Z_const (k := 0) (fun y h4 h5 => by rw [om0 y (.inl (by omega)), Int.zero_mul]), Z_const (k := 0) (lo := Y0 + ((h1 + (d + 2) : Nat) : Int)) (fun y h4 h5 => by rw [om0 y (.inr (by omega)), Int.zero_mul])]
  rw [show Y0 + (h1 : Int) = a.y by omega]
  have rev := Z_rev (fun y => om a b y * r y) (a.y + b.y) a.y (d + 2)
  rw [show a.y + b.y - a.y - ((d + 2 : Nat) : Int) + 1 = a.y by omega] at rev
  have oms : ∀ y, om a b (a.y + b.y - y) = om a b y := fun y => by
    unfold om
    obtain ⟨k1, k2⟩ := omk y
    obtain ⟨k3, k4⟩ := omk (a.y + b.y - y)
    rw [k1, k2, k3, k4, show b.y - (a.y + b.y - y) = -(a.y - y) by omega, show a.y - (a.y + b.y - y) = -(b.y - y) by omega, sgn_opp, sgn_opp]
    omega
  have two : Z (fun y => om a b y * r y) a.y (d + 2) + Z (fun y => om a b y * r y) a.y (d + 2) = 2 * (a.x + b.x - 2 * X0 - (W - 1)) * Z (om a b) a.y (d + 2) := by
    have e : Z (fun y => om a b y * r y) a.y (d + 2) + Z (fun y => om a b y * r y) a.y (d + 2) = Z (fun y => om a b y * r y) a.y (d + 2) + Z (fun x => om a b (a.y + b.y - x) * r (a.y + b.y - x)) a.y (d + 2) := by omega
    rw [e, ← Z_add, ← Z_mul]
    refine Z_congr (fun y h4 h5 => ?_)
    have rs := row_sum hab ha hb y h4 (by omega)
    rw [oms y, ← rs, hr]
    grind
  have omsum : Z (om a b) a.y (d + 2) = 2 * (b.y - a.y) := by
    rw [Z_head, Z, oma, Z_const (k := 2) (fun y h4 h5 => om2 y (by omega) (by omega)), show a.y + 1 + (d : Int) = b.y by omega, omb]
    omega
  rw [omsum] at two
  have fin : 2 * (a.x + b.x - 2 * X0 - (W - 1)) * (2 * (b.y - a.y)) = 2 * (2 * (b.y - a.y) * (a.x + b.x - 2 * X0 - (W - 1))) := by grind
  rw [fin] at two
  omega
theorem edge_box {a b : V} {X0 Y0 : Int} {W Hh : Nat} (ha : X0 ≤ a.x ∧ a.x < X0 + W) (hb : X0 ≤ b.x ∧ b.x < X0 + W) (ha' : Y0 ≤ a.y ∧ a.y < Y0 + Hh) (hb' : Y0 ≤ b.y ∧ b.y < Y0 + Hh) :
    Bx (fun x y => T (sub a ⟨x, y⟩) (sub b ⟨x, y⟩)) X0 Y0 W Hh = 2 * (b.y - a.y) * (a.x + b.x - 2 * X0 - (W - 1)) := by
  rcases Int.lt_trichotomy a.y b.y with c | c | c
  · exact edge_up c ha hb ha'.1 hb'.2
  · have z : ∀ x y, T (sub a ⟨x, y⟩) (sub b ⟨x, y⟩) = 0 := fun x y => by
      rw [T_om]
      unfold om
      rw [c, Int.sub_self]
      simp
    rw [Bx_congr (g := fun _ _ => 0) (fun x y _ _ _ _ => z x y), c, Int.sub_self]
    unfold Bx
    rw [Z_const (k := 0) (fun y _ _ => by rw [Z_const (k := 0) (fun _ _ _ => rfl)]; omega)]
    simp
  · have e := edge_up c hb ha hb'.1 ha'.2
    have f : Bx (fun x y => T (sub a ⟨x, y⟩) (sub b ⟨x, y⟩)) X0 Y0 W Hh = -1 * Bx (fun x y => T (sub b ⟨x, y⟩) (sub a ⟨x, y⟩)) X0 Y0 W Hh := by
      rw [← Bx_mul]
      exact Bx_congr (fun x y _ _ _ _ => by rw [T_anti]; omega)
    rw [f, e]
    grind
/-- Twice the area. -/
def area2 (p : Nat → V) (n : Nat) : Int := S (fun j => (p j).x * (p (j + 1)).y - (p j).y * (p (j + 1)).x) 0 n
section
variable {n : Nat} {p : Nat → V}
theorem area_sum (p : Nat → V) (X : Int) : ∀ n, S (fun j => 2 * ((p (j + 1)).y - (p j).y) * ((p j).x + (p (j + 1)).x - X)) 0 n = 2 * area2 p n + 2 * ((p n).x * (p n).y - (p 0).x * (p 0).y) - 2 * X * ((p n).y - (p 0).y)
  | 0 => by simp [S, area2]
  | n + 1 => by
    rw [S, area_sum p X n]
    unfold area2
    rw [S, Nat.zero_add]
    grind
/-- Pick's theorem: the points of a box that holds the ring, as they see it. -/
theorem Ring.pick (h : Ring n p) {X0 Y0 : Int} {W Hh : Nat} (hin : ∀ j, X0 ≤ (p j).x ∧ (p j).x < X0 + W ∧ Y0 ≤ (p j).y ∧ (p j).y < Y0 + Hh) :
    Bx (fun x y => see n p ⟨x, y⟩) X0 Y0 W Hh = 2 * area2 p n + 2 * C n p := by
  have hn := h.n3
  unfold see
  rw [Bx_add]
  have e1 : Bx (fun x y => S (H (vo p ⟨x, y⟩)) 0 n) X0 Y0 W Hh = 2 * area2 p n := by
    have : Bx (fun x y => S (H (vo p ⟨x, y⟩)) 0 n) X0 Y0 W Hh = S (fun j => Bx (fun x y => T (sub (p j) ⟨x, y⟩) (sub (p (j + 1)) ⟨x, y⟩)) X0 Y0 W Hh) 0 n := Bx_S (fun j x y => T (sub (p j) ⟨x, y⟩) (sub (p (j + 1)) ⟨x, y⟩)) X0 Y0 W Hh n
    rw [this]
    rw [S_congr (g := fun j => 2 * ((p (j + 1)).y - (p j).y) * ((p j).x + (p (j + 1)).x - (2 * X0 + (W - 1)))) (fun j _ _ => by
      have a := hin j
      have b := hin (j + 1)
      rw [edge_box ⟨a.1, a.2.1⟩ ⟨b.1, b.2.1⟩ a.2.2 b.2.2]
      rw [show (p j).x + (p (j + 1)).x - 2 * X0 - ((W : Int) - 1) = (p j).x + (p (j + 1)).x - (2 * X0 + (W - 1)) by omega])]
    rw [area_sum]
    have : p n = p 0 := by have := h.per 0; rw [Nat.zero_add] at this; exact this
    rw [this]
    grind
  have e2 : Bx (fun x y => S (at0 n p ⟨x, y⟩) 0 n) X0 Y0 W Hh = 2 * C n p := by
    have : Bx (fun x y => S (at0 n p ⟨x, y⟩) 0 n) X0 Y0 W Hh = S (fun j => Bx (fun x y => if (p j).x = x ∧ (p j).y = y then tau p (j + n - 1) else 0) X0 Y0 W Hh) 0 n := Bx_S (fun j x y => if (p j).x = x ∧ (p j).y = y then tau p (j + n - 1) else 0) X0 Y0 W Hh n
    rw [this]
    rw [S_congr (g := fun j => tau p (j + n - 1)) (fun j _ _ => by
      have a := hin j
      exact Bx_point _ (p j) ⟨a.1, a.2.1⟩ a.2.2)]
    have sh : S (fun j => tau p (j + n - 1)) 0 n = S (tau p) (n - 1) n := by
      have : ∀ c, S (fun j => tau p (j + n - 1)) 0 c = S (tau p) (n - 1) c := by
        intro c
        induction c with
        | zero => rfl
        | succ c ih => rw [S, S, ih, show 0 + c + n - 1 = n - 1 + c by omega]
      exact this n
    rw [sh, S_turn (tau_per h), h.turns]
  rw [e1, e2]
end
def opp0 (x y : Int) : Prop := x < 0 ∧ 0 < y ∨ 0 < x ∧ y < 0
theorem dot_self {u v : V} (h : 0 < dot u v) : 0 < dot u u := by
  have a := sq_nonneg u.x
  have b := sq_nonneg u.y
  by_cases c : u.x = 0
  · by_cases d : u.y = 0
    · unfold dot at h
      rw [c, d] at h
      simp at h
    · have := sq_pos d
      unfold dot
      omega
  · have := sq_pos c
    unfold dot
    omega
theorem dot_comm (u v : V) : dot v u = dot u v := by unfold dot; grind
/-- Not on the segment: its ends, seen from there, lie in a half-plane. -/
theorem off_half {u v : V} (h : ¬ On0 u v) : ∃ g, 0 < dot g u ∧ 0 < dot g v := by
  rcases Int.lt_trichotomy (crs u v) 0 with c | c | c
  · have e1 : dot ⟨u.y - v.y, v.x - u.x⟩ u = -crs u v := by unfold dot crs; grind
    have e2 : dot ⟨u.y - v.y, v.x - u.x⟩ v = -crs u v := by unfold dot crs; grind
    exact ⟨_, by rw [e1]; omega, by rw [e2]; omega⟩
  · have hd : 0 < dot u v := by
      rcases Int.lt_or_le 0 (dot u v) with d | d
      · exact d
      · exact absurd ⟨c, d⟩ h
    exact ⟨u, dot_self hd, hd⟩
  · have e1 : dot ⟨v.y - u.y, u.x - v.x⟩ u = crs u v := by unfold dot crs; grind
    have e2 : dot ⟨v.y - u.y, u.x - v.x⟩ v = crs u v := by unfold dot crs; grind
    exact ⟨_, by rw [e1]; exact c, by rw [e2]; exact c⟩
theorem off_dot {u v : V} (h : ¬ On0 u v) (hc : crs u v = 0) : 0 < dot u v := by
  rcases Int.lt_or_le 0 (dot u v) with d | d
  · exact d
  · exact absurd ⟨hc, d⟩ h
/-- A parallelogram that does not hold 0. -/
theorem para {u1 u2 v1 v2 : V} (hx : u1.x - u2.x = v1.x - v2.x) (hy : u1.y - u2.y = v1.y - v2.y) (hne : u1 ≠ u2) (h1 : ¬ On0 u1 u2) (h2 : ¬ On0 v1 v2) (h3 : ¬ On0 u1 v1) (h4 : ¬ On0 u2 v2) (ho : ¬ opp0 (crs u1 u2) (crs v1 v2)) :
    ∃ g, 0 < dot g u1 ∧ 0 < dot g u2 ∧ 0 < dot g v1 ∧ 0 < dot g v2 := by
  have n1 : ∀ K w : Int, True := fun _ _ => trivial
  have a1 : dot ⟨u2.y - u1.y, u1.x - u2.x⟩ u1 = crs u1 u2 := by unfold dot crs; grind
  have a2 : dot ⟨u2.y - u1.y, u1.x - u2.x⟩ u2 = crs u1 u2 := by unfold dot crs; grind
  have b1 : dot ⟨u2.y - u1.y, u1.x - u2.x⟩ v1 = crs v1 v2 := by
    have : (⟨u2.y - u1.y, u1.x - u2.x⟩ : V) = ⟨v2.y - v1.y, v1.x - v2.x⟩ := V.eq (show u2.y - u1.y = v2.y - v1.y by omega) (show u1.x - u2.x = v1.x - v2.x by omega)
    rw [this]
    unfold dot crs
    grind
  have b2 : dot ⟨u2.y - u1.y, u1.x - u2.x⟩ v2 = crs v1 v2 := by
    have : (⟨u2.y - u1.y, u1.x - u2.x⟩ : V) = ⟨v2.y - v1.y, v1.x - v2.x⟩ := V.eq (show u2.y - u1.y = v2.y - v1.y by omega) (show u1.x - u2.x = v1.x - v2.x by omega)
    rw [this]
    unfold dot crs
    grind
  generalize hg : (⟨u2.y - u1.y, u1.x - u2.x⟩ : V) = g0 at a1 a2 b1 b2
  have flip : ∀ w, dot (neg g0) w = -dot g0 w := fun w => dot_flip g0 w
  -- a tilted normal
  have tilt : ∀ (g w a b : V), dot g w = 0 → 0 < dot g a → 0 < dot g b → ∃ K : Int, 0 < dot ⟨K * g.x + w.x, K * g.y + w.y⟩ a ∧ 0 < dot ⟨K * g.x + w.x, K * g.y + w.y⟩ b := fun g w a b _ ha hb => by
    refine ⟨(dot w a).natAbs + (dot w b).natAbs + 1, ?_, ?_⟩
    · have e : dot ⟨(((dot w a).natAbs : Int) + ((dot w b).natAbs : Int) + 1) * g.x + w.x, (((dot w a).natAbs : Int) + ((dot w b).natAbs : Int) + 1) * g.y + w.y⟩ a = (((dot w a).natAbs : Int) + ((dot w b).natAbs : Int) + 1) * dot g a + dot w a := by unfold dot; grind
      rw [e]
      have := Int.mul_le_mul_of_nonneg_left (show 1 ≤ dot g a by omega) (show 0 ≤ ((dot w a).natAbs : Int) + ((dot w b).natAbs : Int) + 1 by omega)
      omega
    · have e : dot ⟨(((dot w a).natAbs : Int) + ((dot w b).natAbs : Int) + 1) * g.x + w.x, (((dot w a).natAbs : Int) + ((dot w b).natAbs : Int) + 1) * g.y + w.y⟩ b = (((dot w a).natAbs : Int) + ((dot w b).natAbs : Int) + 1) * dot g b + dot w b := by unfold dot; grind
      rw [e]
      have := Int.mul_le_mul_of_nonneg_left (show 1 ≤ dot g b by omega) (show 0 ≤ ((dot w a).natAbs : Int) + ((dot w b).natAbs : Int) + 1 by omega)
      omega
  have tdot : ∀ (K : Int) (g w a : V), dot ⟨K * g.x + w.x, K * g.y + w.y⟩ a = K * dot g a + dot w a := fun K g w a => by unfold dot; grind
  rcases Int.lt_trichotomy (crs u1 u2) 0 with m | m | m <;> rcases Int.lt_trichotomy (crs v1 v2) 0 with k | k | k
  · exact ⟨neg g0, by rw [flip, a1]; omega, by rw [flip, a2]; omega, by rw [flip, b1]; omega, by rw [flip, b2]; omega⟩
  · -- v1, v2 in line with 0
    have hd := off_dot h2 k
    obtain ⟨K, k1, k2⟩ := tilt (neg g0) v1 u1 u2 (by rw [flip, b1]; omega) (by rw [flip, a1]; omega) (by rw [flip, a2]; omega)
    refine ⟨_, k1, k2, ?_, ?_⟩
    · rw [tdot, flip, b1, k]
      have := dot_self hd
      simp
      exact this
    · rw [tdot, flip, b2, k]
      simp
      exact hd
  · exact absurd (.inl ⟨m, k⟩) ho
  · have hd := off_dot h1 m
    obtain ⟨K, k1, k2⟩ := tilt (neg g0) u1 v1 v2 (by rw [flip, a1]; omega) (by rw [flip, b1]; omega) (by rw [flip, b2]; omega)
    refine ⟨_, ?_, ?_, k1, k2⟩
    · rw [tdot, flip, a1, m]
      have := dot_self hd
      simp
      exact this
    · rw [tdot, flip, a2, m]
      simp
      exact hd
  · -- all in line
    have hd := off_dot h1 m
    have hd2 := off_dot h2 k
    have ex : (u1.x - u2.x) * crs u1 v1 = 0 := by
      have : (u1.x - u2.x) * crs u1 v1 = u1.x * dot g0 v1 - v1.x * dot g0 u1 := by rw [← hg]; unfold dot crs; grind
      rw [this, b1, a1, m, k]
      simp
    have ey : (u1.y - u2.y) * crs u1 v1 = 0 := by
      have : (u1.y - u2.y) * crs u1 v1 = u1.y * dot g0 v1 - v1.y * dot g0 u1 := by rw [← hg]; unfold dot crs; grind
      rw [this, b1, a1, m, k]
      simp
    have hc : crs u1 v1 = 0 := by
      rcases Int.mul_eq_zero.1 ex with c | c
      · rcases Int.mul_eq_zero.1 ey with d | d
        · exact absurd (V.eq (by omega) (by omega)) hne
        · exact d
      · exact c
    have hd3 := off_dot h3 hc
    refine ⟨u1, dot_self hd, hd, hd3, ?_⟩
    have e := dot_crs0 (g := v1) (u := v1) (v := v2) k u1
    have p1 := Int.mul_pos hd2 (show 0 < dot u1 v1 from hd3)
    have s1 := dot_self hd2
    rcases Int.lt_or_le 0 (dot u1 v2) with c | c
    · exact c
    · have := Int.mul_nonneg (Int.le_of_lt s1) (show 0 ≤ -dot u1 v2 by omega)
      rw [Int.mul_neg] at this
      omega
  · have hd := off_dot h1 m
    obtain ⟨K, k1, k2⟩ := tilt g0 u1 v1 v2 (by rw [a1]; exact m) (by rw [b1]; exact k) (by rw [b2]; exact k)
    refine ⟨_, ?_, ?_, k1, k2⟩
    · rw [tdot, a1, m]
      have := dot_self hd
      simp
      exact this
    · rw [tdot, a2, m]
      simp
      exact hd
  · exact absurd (.inr ⟨m, k⟩) ho
  · have hd := off_dot h2 k
    obtain ⟨K, k1, k2⟩ := tilt g0 v1 u1 u2 (by rw [b1]; exact k) (by rw [a1]; exact m) (by rw [a2]; exact m)
    refine ⟨_, k1, k2, ?_, ?_⟩
    · rw [tdot, b1, k]
      have := dot_self hd
      simp
      exact this
    · rw [tdot, b2, k]
      simp
      exact hd
  · exact ⟨g0, by rw [a1]; exact m, by rw [a2]; exact m, by rw [b1]; exact k, by rw [b2]; exact k⟩
/-- Two edges that do not meet. -/
theorem apart {a b c d : V} (hab : a ≠ b) (hcd : c ≠ d) (h1 : ¬ On0 (sub a c) (sub b c)) (h2 : ¬ On0 (sub a d) (sub b d)) (h3 : ¬ On0 (sub c a) (sub d a)) (h4 : ¬ On0 (sub c b) (sub d b))
    (hx : ¬ (opp0 (crs (sub c a) (sub c b)) (crs (sub d a) (sub d b)) ∧ opp0 (crs (sub c a) (sub d a)) (crs (sub c b) (sub d b)))) :
    ∃ g, 0 < dot g (sub c a) ∧ 0 < dot g (sub c b) ∧ 0 < dot g (sub d a) ∧ 0 < dot g (sub d b) := by
  have r1 : ¬ On0 (sub c a) (sub c b) := fun e => h1 ⟨by have := e.1; unfold crs sub at this ⊢; grind, by
    have := e.2
    have q : dot (sub a c) (sub b c) = dot (sub c a) (sub c b) := by unfold dot sub; grind
    omega⟩
  have r2 : ¬ On0 (sub d a) (sub d b) := fun e => h2 ⟨by have := e.1; unfold crs sub at this ⊢; grind, by
    have := e.2
    have q : dot (sub a d) (sub b d) = dot (sub d a) (sub d b) := by unfold dot sub; grind
    omega⟩
  by_cases c1 : opp0 (crs (sub c a) (sub c b)) (crs (sub d a) (sub d b))
  · obtain ⟨g, g1, g2, g3, g4⟩ := para (u1 := sub c a) (u2 := sub d a) (v1 := sub c b) (v2 := sub d b) (by unfold sub; simp; omega) (by unfold sub; simp; omega) (fun e => hcd (V.eq (by
      have : (sub c a).x = (sub d a).x := by rw [e]
      unfold sub at this
      simp at this
      omega) (by
      have : (sub c a).y = (sub d a).y := by rw [e]
      unfold sub at this
      simp at this
      omega))) h3 h4 r1 r2 (fun e => hx ⟨c1, e⟩)
    exact ⟨g, g1, g3, g2, g4⟩
  · exact para (by unfold sub; simp; omega) (by unfold sub; simp; omega) (fun e => hab (V.eq (by
      have : (sub c a).x = (sub c b).x := by rw [e]
      unfold sub at this
      simp at this
      omega) (by
      have : (sub c a).y = (sub c b).y := by rw [e]
      unfold sub at this
      simp at this
      omega))) r1 r2 h3 h4 c1
/-- Two edges with an end in common that meet nowhere else. -/
theorem joint {o p q : V} (h1 : ¬ On0 (sub o q) (sub p q)) (h2 : ¬ On0 (sub p o) (sub q o)) : ∃ g, 0 < dot g (sub p o) ∧ 0 < dot g (sub q p) := by
  apply off_half
  intro ⟨hc, hd⟩
  -- they turn back: the shorter one lies on the longer one
  have id : dot (sub p o) (sub q p) * dot (sub p o) (sub q p) + crs (sub p o) (sub q p) * crs (sub p o) (sub q p) = dot (sub p o) (sub p o) * dot (sub q p) (sub q p) := by unfold dot crs; grind
  rw [hc, Int.mul_zero, Int.add_zero] at id
  have e1 : dot (sub o q) (sub p q) = dot (sub p o) (sub q p) + dot (sub q p) (sub q p) := by unfold dot sub; grind
  have e2 : dot (sub p o) (sub q o) = dot (sub p o) (sub q p) + dot (sub p o) (sub p o) := by unfold dot sub; grind
  have c1 : crs (sub o q) (sub p q) = 0 := by
    have : crs (sub o q) (sub p q) = crs (sub p o) (sub q p) := by unfold crs sub; grind
    rw [this]; exact hc
  have c2 : crs (sub p o) (sub q o) = 0 := by
    have : crs (sub p o) (sub q o) = crs (sub p o) (sub q p) := by unfold crs sub; grind
    rw [this]; exact hc
  have l1 : 0 < dot (sub p o) (sub q p) + dot (sub q p) (sub q p) := by
    rcases Int.lt_or_le 0 (dot (sub o q) (sub p q)) with d | d
    · omega
    · exact absurd ⟨c1, d⟩ h1
  have l2 : 0 < dot (sub p o) (sub q p) + dot (sub p o) (sub p o) := by
    rcases Int.lt_or_le 0 (dot (sub p o) (sub q o)) with d | d
    · omega
    · exact absurd ⟨c2, d⟩ h2
  -- (-t) * (-t) < x * y for t <= 0, -t < x, -t < y
  have x1 : -dot (sub p o) (sub q p) * -dot (sub p o) (sub q p) ≤ -dot (sub p o) (sub q p) * dot (sub q p) (sub q p) := Int.mul_le_mul_of_nonneg_left (by omega) (by omega)
  have x2 : -dot (sub p o) (sub q p) * dot (sub q p) (sub q p) < dot (sub p o) (sub p o) * dot (sub q p) (sub q p) := Int.mul_lt_mul_of_pos_right (by omega) (by omega)
  rw [Int.neg_mul_neg] at x1
  omega
/-- The segment in coordinates. -/
theorem on0_iff {a b o : V} : On0 (sub a o) (sub b o) ↔ crs (sub a o) (sub b o) = 0 ∧ min a.x b.x ≤ o.x ∧ o.x ≤ max a.x b.x ∧ min a.y b.y ≤ o.y ∧ o.y ≤ max a.y b.y := by
  constructor
  · rintro ⟨hc, hd⟩
    refine ⟨hc, ?_⟩
    -- were both ends on one side in x, they would be on one side in y, or level with it
    have key : ∀ x1 x2 y1 y2 : Int, x1 * y2 - y1 * x2 = 0 → x1 * x2 + y1 * y2 ≤ 0 → (0 < x1 ∧ 0 < x2) ∨ (x1 < 0 ∧ x2 < 0) → False := fun x1 x2 y1 y2 h1 h2 h3 => by
      have p : 0 < x1 * x2 := by
        rcases h3 with ⟨a, b⟩ | ⟨a, b⟩
        · exact Int.mul_pos a b
        · exact Int.mul_pos_of_neg_of_neg a b
      -- y1 * y2 * (x1 * x2) = (x1 * y2)^2
      have e : y1 * y2 * (x1 * x2) = (x1 * y2) * (x1 * y2) := by
        have : y1 * y2 * (x1 * x2) = (y1 * x2) * (x1 * y2) := by grind
        rw [this, show y1 * x2 = x1 * y2 by omega]
      have q : 0 ≤ y1 * y2 := by
        rcases Int.lt_or_le (y1 * y2) 0 with c | c
        · have := Int.mul_neg_of_neg_of_pos c p
          have := sq_nonneg (x1 * y2)
          omega
        · exact c
      omega
    have kx := key (sub a o).x (sub b o).x (sub a o).y (sub b o).y hc hd
    have ky := key (sub a o).y (sub b o).y (sub a o).x (sub b o).x (by unfold crs at hc; omega) (by unfold dot at hd; omega)
    unfold sub at kx ky
    simp only at kx ky
    refine ⟨?_, ?_, ?_, ?_⟩
    · exact Int.not_lt.1 (fun c => kx (.inl ⟨by omega, by omega⟩))
    · exact Int.not_lt.1 (fun c => kx (.inr ⟨by omega, by omega⟩))
    · exact Int.not_lt.1 (fun c => ky (.inl ⟨by omega, by omega⟩))
    · exact Int.not_lt.1 (fun c => ky (.inr ⟨by omega, by omega⟩))
  · rintro ⟨hc, x1, x2, y1, y2⟩
    refine ⟨hc, ?_⟩
    have hx : (sub a o).x * (sub b o).x ≤ 0 := mul_np (by unfold sub; simp only; omega)
    have hy : (sub a o).y * (sub b o).y ≤ 0 := mul_np (by unfold sub; simp only; omega)
    unfold dot
    omega
end Go.Proofs.Ytggafoldccikdaa.Pk
