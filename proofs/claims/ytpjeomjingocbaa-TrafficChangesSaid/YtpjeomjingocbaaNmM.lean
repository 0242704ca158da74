/- MulDiv: the digits of a product, Div64, and the floor of a product by a divisor. -/
import Derived.Test.YtpjeomjingocbaaBas
import Derived.Laws.MathBits
import Derived.Laws.BitsLemmas
import Derived.Test.YtpjeomjingocbaaPAllx7
import Derived.Test.YtpjeomjingocbaaPAllx8
import Derived.Test.YtpjeomjingocbaaPAllx9
import Derived.Test.YtpjeomjingocbaaPAllx10
import Derived.Test.YtpjeomjingocbaaPAllx11
import Derived.Test.YtpjeomjingocbaaPAllx12
namespace Go.Proofs.Ytpjeomjingocbaa.Nm
open Go.RowKit Go.Proofs.Ytpjeomjingocbaa.PAll Go.Proofs.YtpjeomjingocbaaW.PrintWords Go.Proofs.YtpjeomjingocbaaW.PrintLast Go.Proofs.YtpjeomjingocbaaW.PrintMore Go.Proofs.Ytpjeomjingocbaa.Bas
set_option linter.unusedVariables false
set_option linter.unusedSimpArgs false

def mag (a : Int) : Int := if a < 0 then -a else a
def mm (a b : Int) : Int := mag a * mag b
def sg (a b : Int) : Int := if a = 0 ∨ b = 0 then 0 else if (decide (a < 0) != decide (b < 0)) = true then -1 else 1
def prd (a b : Int) : Int × Int × Int := (mm a b / 18446744073709551616, mm a b % 18446744073709551616, sg a b)
theorem mag_bd {a : Int} (ha : IsI a) : 0 ≤ mag a ∧ mag a ≤ 9223372036854775808 := by
  unfold IsI at ha
  unfold mag
  split <;> omega
theorem size_eq {a : Int} (ha : IsI a) : num_size.f a = some (mag a) := by
  unfold IsI at ha
  unfold num_size.f mag
  split
  · rw [IntKind.wrap_u64, IntKind.wrap_u64]
    congr 1
    omega
  · rw [IntKind.wrap_u64]
    congr 1
    omega
theorem Mul64_eq {x y : Int} (hx0 : 0 ≤ x) (hx : x < 18446744073709551616) (hy0 : 0 ≤ y) (hy : y < 18446744073709551616) : bits_Mul64.f x y = some (x * y / 18446744073709551616, x * y % 18446744073709551616) := by
  unfold bits_Mul64.f
  simp only [IntKind.wrap_u64]
  rw [and_low32 x hx0 hx, and_low32 y hy0 hy, and_low32 _ (Int.emod_nonneg _ (by decide)) (Int.emod_lt_of_pos _ (by decide)), mul64_arith x y hx0 hx hy0 hy]
theorem mm_zero {a b : Int} (h : a = 0 ∨ b = 0) : mm a b = 0 := by
  unfold mm mag
  rcases h with h | h <;> subst h <;> simp
theorem mm_nn {a b : Int} (ha : IsI a) (hb : IsI b) : 0 ≤ mm a b := Int.mul_nonneg (mag_bd ha).1 (mag_bd hb).1
theorem product_ev {a b : Int} (ha : IsI a) (hb : IsI b) : Ev (fun k => num_product.f k a b) (prd a b) := by
  refine Ev.congr (fun k => by rw [num_product.f]) ?_
  have ma := mag_bd ha
  have mb := mag_bd hb
  refine Ev.bind (Ev_const (size_eq ha)) (Ev.bind (Ev_const (size_eq hb)) (Ev.bind (Ev_const (Mul64_eq ma.1 (by omega) mb.1 (by omega))) ?_))
  have z : ∀ t : Bool, t = true → (a = 0 ∨ b = 0) → Ev (fun k => num_product.j0 k a b (mag a * mag b / 18446744073709551616) (mag a * mag b % 18446744073709551616) t) (prd a b) := by
    intro t ht h
    refine Ev_round (fun k => by rw [num_product.j0]) (Ev_pos ht (Ev_eq ?_ (Ev.now _)))
    unfold prd sg
    rw [mm_zero h, if_pos h]
    rfl
  by_cases c : a = 0
  · exact Ev_pos c (z _ rfl (.inl c))
  · refine Ev_neg c ?_
    by_cases c2 : b = 0
    · exact z _ (by simpa using c2) (.inr c2)
    · refine Ev_round (fun k => by rw [num_product.j0]) (Ev_neg (by simpa using c2) ?_)
      unfold prd sg
      rw [if_neg (show ¬ (a = 0 ∨ b = 0) by omega)]
      by_cases c3 : (decide (a < 0) != decide (b < 0)) = true
      · exact Ev_pos c3 (Ev_eq (by rw [if_pos c3]; rfl) (Ev.now _))
      · exact Ev_neg c3 (Ev_eq (by rw [if_neg c3]; rfl) (Ev.now _))
theorem sg_bd (a b : Int) : sg a b = -1 ∨ sg a b = 0 ∨ sg a b = 1 := by
  unfold sg
  repeat' split
  all_goals omega


theorem bt_tab {s : ByteArray} {i : Int} (hs : ∀ (j : Nat) (h : j < s.size), (s[j]'h).toNat = bitLen j) (hz : s.size = 256) (h0 : i.toNat < 256) : bt s i = (bitLen i.toNat : Int) := by
  have h1 : i.toNat < s.size := by omega
  unfold bt
  rw [dif_pos h1, hs]
theorem len_shift {x : Int} {b : Nat} {m : Int} (h0 : 0 ≤ x) (hm : (2 ^ b : Nat) = m) (hp : 0 < m) (hx : m ≤ x) : bitLen x.toNat = b + bitLen (x / m).toNat := by
  obtain ⟨n, rfl⟩ := Int.eq_ofNat_of_zero_le h0
  have e : ((n : Int) / m).toNat = n / 2 ^ b := by
    rw [← hm]
    rw [← Int.natCast_ediv]
    rfl
  rw [e]
  refine bitLen_shift n b ?_
  have : 2 ^ b ≤ n := by
    rw [← hm] at hx
    exact_mod_cast hx
  have := Nat.div_pos this (Nat.two_pow_pos b)
  omega
theorem len_bd {x : Int} {b : Nat} (h0 : 0 ≤ x) (h : x < (2 ^ b : Nat)) : bitLen x.toNat ≤ b := by
  unfold bitLen
  split
  · omega
  · rename_i hz
    have h2 : x.toNat < 2 ^ b := by omega
    have := (Nat.log2_lt hz).2 h2
    omega
theorem Len64_j0 {x n : Int} (h0 : 0 ≤ x) (h1 : x < 4294967296) (hn : 0 ≤ n ∧ n ≤ 32) : Ev (fun k => bits_Len64.j0 k x n) (n + (bitLen x.toNat : Int)) := by
  refine Ev_round (fun k => by rw [bits_Len64.j0]) ?_
  have bd : ∀ i : Int, 0 ≤ i → i < 256 → 0 ≤ (bitLen i.toNat : Int) ∧ (bitLen i.toNat : Int) ≤ 8 := fun i hi hj => ⟨by omega, by have := len_bd (b := 8) hi (by simpa using hj); omega⟩
  by_cases c1 : x ≥ 65536
  · refine Ev_pos c1 ?_
    have e1 := len_shift (x := x) (b := 16) (m := 65536) h0 (by decide) (by decide) c1
    by_cases c2 : x / 65536 ≥ 256
    · have e2 := len_shift (x := x / 65536) (b := 8) (m := 256) (by omega) (by decide) (by decide) c2
      have e3 : x / 65536 / 256 % 256 = x / 65536 / 256 := by omega
      have b1 := bd (x / 65536 / 256) (by omega) (by omega)
      refine Ev_pos c2 (Ev_pos (by omega) (Ev_pos (by omega) (Ev_const ?_)))
      rw [bt_tab len8tab_get (by decide +kernel) (show (x / 65536 / 256 % 256).toNat < 256 by omega), e3, wrap_in (x := (bitLen (x / 65536 / 256).toNat : Int)) ⟨by omega, by omega⟩, wrap_in (x := n + 16) ⟨by omega, by omega⟩, wrap_in (x := n + 16 + 8) ⟨by omega, by omega⟩, wrap_in ⟨by omega, by omega⟩]
      congr 1
      omega
    · have e3 : x / 65536 % 256 = x / 65536 := by omega
      have b1 := bd (x / 65536) (by omega) (by omega)
      refine Ev_neg c2 (Ev_pos (by omega) (Ev_pos (by omega) (Ev_const ?_)))
      rw [bt_tab len8tab_get (by decide +kernel) (show (x / 65536 % 256).toNat < 256 by omega), e3, wrap_in (x := (bitLen (x / 65536).toNat : Int)) ⟨by omega, by omega⟩, wrap_in (x := n + 16) ⟨by omega, by omega⟩, wrap_in ⟨by omega, by omega⟩]
      congr 1
      omega
  · refine Ev_neg c1 ?_
    by_cases c2 : x ≥ 256
    · have e2 := len_shift (x := x) (b := 8) (m := 256) (by omega) (by decide) (by decide) c2
      have e3 : x / 256 % 256 = x / 256 := by omega
      have b1 := bd (x / 256) (by omega) (by omega)
      refine Ev_pos c2 (Ev_pos (by omega) (Ev_pos (by omega) (Ev_const ?_)))
      rw [bt_tab len8tab_get (by decide +kernel) (show (x / 256 % 256).toNat < 256 by omega), e3, wrap_in (x := (bitLen (x / 256).toNat : Int)) ⟨by omega, by omega⟩, wrap_in (x := n + 8) ⟨by omega, by omega⟩, wrap_in ⟨by omega, by omega⟩]
      congr 1
      omega
    · have e3 : x % 256 = x := by omega
      have b1 := bd x (by omega) (by omega)
      refine Ev_neg c2 (Ev_pos (by omega) (Ev_pos (by omega) (Ev_const ?_)))
      rw [bt_tab len8tab_get (by decide +kernel) (show (x % 256).toNat < 256 by omega), e3, wrap_in (x := (bitLen x.toNat : Int)) ⟨by omega, by omega⟩, wrap_in ⟨by omega, by omega⟩]
theorem Len64_ev {x : Int} (h0 : 0 ≤ x) (h1 : x < 18446744073709551616) : Ev (fun k => bits_Len64.f k x) (bitLen x.toNat : Int) := by
  refine Ev.congr (fun k => by rw [bits_Len64.f]) ?_
  by_cases c : x ≥ 4294967296
  · refine Ev_pos c (Ev_eq ?_ (Len64_j0 (x := x / 4294967296) (n := 32) (by omega) (by omega) (by omega)))
    have := len_shift (x := x) (b := 32) (m := 4294967296) h0 (by decide) (by decide) c
    omega
  · exact Ev_neg c (Ev_eq (by omega) (Len64_j0 (x := x) (n := 0) h0 (by omega) (by omega)))

/-- The digit's estimate is lowered until it fits: what a round learns. -/
theorem digit {yn1 yn0 u c q1 r : Int} (y1 : 2147483648 ≤ yn1) (y2 : yn1 < 4294967296) (y3 : 0 ≤ yn0) (y4 : yn0 < 4294967296) (hc : 0 ≤ c) (hc2 : c < 4294967296) (hr : r = u - q1 * yn1) :
    (q1 ≤ (u * 4294967296 + c) / (yn1 * 4294967296 + yn0) ↔ q1 * yn0 ≤ 4294967296 * r + c) := by
  rw [Int.le_ediv_iff_mul_le (by omega)]
  have : q1 * (yn1 * 4294967296 + yn0) = q1 * yn1 * 4294967296 + q1 * yn0 := by grind
  rw [this]
  generalize q1 * yn1 = P at *
  generalize q1 * yn0 = Z at *
  omega
theorem digit_small {yn1 yn0 u c : Int} (y1 : 2147483648 ≤ yn1) (y2 : yn1 < 4294967296) (y3 : 0 ≤ yn0) (y4 : yn0 < 4294967296) (hc : 0 ≤ c) (hc2 : c < 4294967296) (hu : 0 ≤ u) (hu2 : u < yn1 * 4294967296 + yn0) :
    0 ≤ (u * 4294967296 + c) / (yn1 * 4294967296 + yn0) ∧ (u * 4294967296 + c) / (yn1 * 4294967296 + yn0) < 4294967296 ∧ (u * 4294967296 + c) / (yn1 * 4294967296 + yn0) ≤ u / yn1 ∧ u / yn1 ≤ 4294967297 := by
  have hp : 0 < yn1 * 4294967296 + yn0 := by omega
  refine ⟨Int.ediv_nonneg (by omega) (by omega), Int.ediv_lt_of_lt_mul hp (by omega), ?_, ?_⟩
  · rw [Int.le_ediv_iff_mul_le (by omega)]
    have h := Int.ediv_mul_le (u * 4294967296 + c) (show yn1 * 4294967296 + yn0 ≠ 0 by omega)
    have hq := Int.ediv_nonneg (show 0 ≤ u * 4294967296 + c by omega) (show 0 ≤ yn1 * 4294967296 + yn0 by omega)
    generalize (u * 4294967296 + c) / (yn1 * 4294967296 + yn0) = q at *
    have e : q * (yn1 * 4294967296 + yn0) = q * yn1 * 4294967296 + q * yn0 := by grind
    have z := Int.mul_nonneg hq y3
    rw [e] at h
    omega
  · have : u / yn1 < 4294967298 := by
      refine Int.ediv_lt_of_lt_mul (by omega) ?_
      omega
    omega
theorem mul_le {a b c d : Int} (h1 : 0 ≤ a) (h2 : a ≤ b) (h3 : 0 ≤ c) (h4 : c ≤ d) : 0 ≤ a * c ∧ a * c ≤ b * d := ⟨Int.mul_nonneg h1 h3, Int.mul_le_mul h2 h4 h3 (by omega)⟩

section
variable {yn yn1 yn0 u un1 un0 s : Int} {R : Int × Int}
theorem loop0 (y1 : 2147483648 ≤ yn1) (y2 : yn1 < 4294967296) (y3 : 0 ≤ yn0) (y4 : yn0 < 4294967296) (hc : 0 ≤ un1) (hc2 : un1 < 4294967296) (hu : 0 ≤ u) (hu2 : u < yn1 * 4294967296 + yn0)
    (hj : Ev (fun k => bits_Div64.j2 k yn s yn1 yn0 u un1 un0 ((u * 4294967296 + un1) / (yn1 * 4294967296 + yn0))) R) (n : Nat) :
    ∀ q1 r : Int, q1 - (u * 4294967296 + un1) / (yn1 * 4294967296 + yn0) = n → q1 ≤ 4294967297 → r = u - q1 * yn1 → 0 ≤ r → r < 4294967296 → Ev (fun k => bits_Div64.l0 k yn s yn1 yn0 u un1 un0 q1 r) R := by
  obtain ⟨d1, d2, d3, d4⟩ := digit_small y1 y2 y3 y4 hc hc2 hu hu2
  generalize hq : (u * 4294967296 + un1) / (yn1 * 4294967296 + yn0) = q at *
  have back : ∀ q1 r : Int, q ≤ q1 → q1 ≤ 4294967297 → r = u - q1 * yn1 → 0 ≤ r → r < 4294967296 →
      Ev (fun k => bits_Div64.l0 k yn s yn1 yn0 u un1 un0 q1 r) R ∨ (q < q1 ∧ ∀ (X : Nat → Option (Int × Int)), Ev (fun k => if r + yn1 ≥ 4294967296 then bits_Div64.j2 k yn s yn1 yn0 u un1 un0 (q1 - 1) else bits_Div64.l0 k yn s yn1 yn0 u un1 un0 (q1 - 1) (r + yn1)) R → Ev (fun k => bits_Div64.l0 k yn s yn1 yn0 u un1 un0 q1 r) R) := by
    intro q1 r h1 h2 h3 h4 h5
    have dg := digit (q1 := q1) y1 y2 y3 y4 hc hc2 h3
    rw [hq] at dg
    have wr : IntKind.u64.wrap (r + yn1) = r + yn1 := by rw [IntKind.wrap_u64]; omega
    have wq : q < q1 → IntKind.u64.wrap (q1 - 1) = q1 - 1 := fun h => by rw [IntKind.wrap_u64]; omega
    have jt : ∀ b : Bool, b = true → q < q1 → Ev (fun k => if r + yn1 ≥ 4294967296 then bits_Div64.j2 k yn s yn1 yn0 u un1 un0 (q1 - 1) else bits_Div64.l0 k yn s yn1 yn0 u un1 un0 (q1 - 1) (r + yn1)) R → Ev (fun k => bits_Div64.j1 k yn s yn1 yn0 u un1 un0 q1 r b) R := by
      intro b hb hlt h
      refine Ev_round (fun k => by rw [bits_Div64.j1]) (Ev_pos hb ?_)
      rw [wr, wq hlt]
      exact h
    by_cases c : q1 ≥ 4294967296
    · exact .inr ⟨by omega, fun _ h => Ev_round (fun k => by rw [bits_Div64.l0]) (Ev_pos c (jt true rfl (by omega) h))⟩
    · have m1 := mul_le (a := q1) (b := 4294967295) (c := yn0) (d := 4294967295) (by omega) (by omega) y3 (by omega)
      have w1 : IntKind.u64.wrap (q1 * yn0) = q1 * yn0 := by rw [IntKind.wrap_u64]; omega
      have w2 : IntKind.u64.wrap (4294967296 * r) = 4294967296 * r := by rw [IntKind.wrap_u64]; omega
      have w3 : IntKind.u64.wrap (4294967296 * r + un1) = 4294967296 * r + un1 := by rw [IntKind.wrap_u64]; omega
      by_cases c2 : q1 * yn0 > 4294967296 * r + un1
      · refine .inr ⟨by omega, fun _ h => Ev_round (fun k => by rw [bits_Div64.l0]) (Ev_neg c ?_)⟩
        rw [w1, w2, w3]
        exact jt _ (by simpa using c2) (by omega) h
      · refine .inl (Ev_round (fun k => by rw [bits_Div64.l0]) (Ev_neg c ?_))
        rw [w1, w2, w3]
        refine Ev_round (fun k => by rw [bits_Div64.j1]) (Ev_neg (by simpa using c2) ?_)
        have : q1 = q := by omega
        rw [this]
        exact hj
  induction n with
  | zero =>
    intro q1 r h1 h2 h3 h4 h5
    rcases back q1 r (by omega) h2 h3 h4 h5 with h | ⟨h, _⟩
    · exact h
    · omega
  | succ n ih =>
    intro q1 r h1 h2 h3 h4 h5
    rcases back q1 r (by omega) h2 h3 h4 h5 with h | ⟨h, k⟩
    · exact h
    · refine k (fun _ => none) ?_
      have h3' : r + yn1 = u - (q1 - 1) * yn1 := by rw [Int.sub_mul]; omega
      by_cases c : r + yn1 ≥ 4294967296
      · refine Ev_pos c ?_
        have dg := digit (q1 := q1 - 1) y1 y2 y3 y4 hc hc2 h3'
        rw [hq] at dg
        have m1 := mul_le (a := q1 - 1) (b := 4294967296) (c := yn0) (d := 4294967295) (by omega) (by omega) y3 (by omega)
        have : q1 - 1 = q := by omega
        rw [this]
        exact hj
      · exact Ev_neg c (ih (q1 - 1) (r + yn1) (by omega) (by omega) h3' (by omega) (by omega))
theorem loop1 {q1 un21 : Int} (hs : 0 ≤ s) (y1 : 2147483648 ≤ yn1) (y2 : yn1 < 4294967296) (y3 : 0 ≤ yn0) (y4 : yn0 < 4294967296) (hc : 0 ≤ un0) (hc2 : un0 < 4294967296) (hu : 0 ≤ u) (hu2 : u < yn1 * 4294967296 + yn0)
    (hj : (IntKind.u64.wrap ((IntKind.u64.wrap (q1 * 4294967296)) + ((u * 4294967296 + un0) / (yn1 * 4294967296 + yn0))), shr .u64 (IntKind.u64.wrap ((IntKind.u64.wrap ((IntKind.u64.wrap (un21 * 4294967296)) + un0)) - (IntKind.u64.wrap (((u * 4294967296 + un0) / (yn1 * 4294967296 + yn0)) * yn)))) s) = R) (n : Nat) :
    ∀ q0 r : Int, q0 - (u * 4294967296 + un0) / (yn1 * 4294967296 + yn0) = n → q0 ≤ 4294967297 → r = u - q0 * yn1 → 0 ≤ r → r < 4294967296 → Ev (fun k => bits_Div64.l1 k yn s yn1 yn0 un0 q1 r un21 q0) R := by
  obtain ⟨d1, d2, d3, d4⟩ := digit_small y1 y2 y3 y4 hc hc2 hu hu2
  generalize hq : (u * 4294967296 + un0) / (yn1 * 4294967296 + yn0) = q at *
  have back : ∀ q0 r : Int, q ≤ q0 → q0 ≤ 4294967297 → r = u - q0 * yn1 → 0 ≤ r → r < 4294967296 →
      Ev (fun k => bits_Div64.l1 k yn s yn1 yn0 un0 q1 r un21 q0) R ∨ (q < q0 ∧ ((r + yn1 ≥ 4294967296 ∧ q0 - 1 = q ∨ r + yn1 < 4294967296 ∧ Ev (fun k => bits_Div64.l1 k yn s yn1 yn0 un0 q1 (r + yn1) un21 (q0 - 1)) R) → Ev (fun k => bits_Div64.l1 k yn s yn1 yn0 un0 q1 r un21 q0) R)) := by
    intro q0 r h1 h2 h3 h4 h5
    have dg := digit (q1 := q0) y1 y2 y3 y4 hc hc2 h3
    rw [hq] at dg
    have wr : IntKind.u64.wrap (r + yn1) = r + yn1 := by rw [IntKind.wrap_u64]; omega
    have wq : q < q0 → IntKind.u64.wrap (q0 - 1) = q0 - 1 := fun h => by rw [IntKind.wrap_u64]; omega
    have jt : ∀ b : Bool, b = true → q < q0 → (r + yn1 ≥ 4294967296 ∧ q0 - 1 = q ∨ r + yn1 < 4294967296 ∧ Ev (fun k => bits_Div64.l1 k yn s yn1 yn0 un0 q1 (r + yn1) un21 (q0 - 1)) R) → Ev (fun k => bits_Div64.j4 k yn s yn1 yn0 un0 q1 r un21 q0 b) R := by
      intro b hb hlt h
      refine Ev_round (fun k => by rw [bits_Div64.j4]) (Ev_pos hb ?_)
      rw [wr, wq hlt]
      rcases h with ⟨h, e⟩ | ⟨h, e⟩
      · refine Ev_pos h (Ev_pos hs (Ev_const ?_))
        rw [e]
        exact congrArg some hj
      · exact Ev_neg (by omega) e
    by_cases c : q0 ≥ 4294967296
    · exact .inr ⟨by omega, fun h => Ev_round (fun k => by rw [bits_Div64.l1]) (Ev_pos c (jt true rfl (by omega) h))⟩
    · have m1 := mul_le (a := q0) (b := 4294967295) (c := yn0) (d := 4294967295) (by omega) (by omega) y3 (by omega)
      have w1 : IntKind.u64.wrap (q0 * yn0) = q0 * yn0 := by rw [IntKind.wrap_u64]; omega
      have w2 : IntKind.u64.wrap (4294967296 * r) = 4294967296 * r := by rw [IntKind.wrap_u64]; omega
      have w3 : IntKind.u64.wrap (4294967296 * r + un0) = 4294967296 * r + un0 := by rw [IntKind.wrap_u64]; omega
      by_cases c2 : q0 * yn0 > 4294967296 * r + un0
      · refine .inr ⟨by omega, fun h => Ev_round (fun k => by rw [bits_Div64.l1]) (Ev_neg c ?_)⟩
        rw [w1, w2, w3]
        exact jt _ (by simpa using c2) (by omega) h
      · refine .inl (Ev_round (fun k => by rw [bits_Div64.l1]) (Ev_neg c ?_))
        rw [w1, w2, w3]
        refine Ev_round (fun k => by rw [bits_Div64.j4]) (Ev_neg (by simpa using c2) (Ev_pos hs (Ev_const ?_)))
        have : q0 = q := by omega
        rw [this]
        exact congrArg some hj
  induction n with
  | zero =>
    intro q0 r h1 h2 h3 h4 h5
    rcases back q0 r (by omega) h2 h3 h4 h5 with h | ⟨h, _⟩
    · exact h
    · omega
  | succ n ih =>
    intro q0 r h1 h2 h3 h4 h5
    rcases back q0 r (by omega) h2 h3 h4 h5 with h | ⟨h, k⟩
    · exact h
    · refine k ?_
      have h3' : r + yn1 = u - (q0 - 1) * yn1 := by rw [Int.sub_mul]; omega
      by_cases c : r + yn1 ≥ 4294967296
      · have dg := digit (q1 := q0 - 1) y1 y2 y3 y4 hc hc2 h3'
        rw [hq] at dg
        have m1 := mul_le (a := q0 - 1) (b := 4294967296) (c := yn0) (d := 4294967295) (by omega) (by omega) y3 (by omega)
        exact .inl ⟨c, by omega⟩
      · exact .inr ⟨by omega, ih (q0 - 1) (r + yn1) (by omega) (by omega) h3' (by omega) (by omega)⟩
end

/-- What a division learns of a first guess. -/
theorem guess {u yn1 : Int} (y1 : 2147483648 ≤ yn1) (y2 : yn1 < 4294967296) (hu : 0 ≤ u) (hu2 : u < 18446744073709551616) :
    IntKind.u64.wrap (Int.tdiv u yn1) = u / yn1 ∧ IntKind.u64.wrap (u - IntKind.u64.wrap (IntKind.u64.wrap (Int.tdiv u yn1) * yn1)) = u - u / yn1 * yn1 ∧ 0 ≤ u - u / yn1 * yn1 ∧ u - u / yn1 * yn1 < 4294967296 := by
  have e : Int.tdiv u yn1 = u / yn1 := tdiv_nn hu
  have q0 := Int.ediv_nonneg hu (show 0 ≤ yn1 by omega)
  have q1 : u / yn1 ≤ u := Int.ediv_le_self _ hu
  have m := Int.mul_ediv_add_emod u yn1
  have m0 := Int.emod_nonneg u (show yn1 ≠ 0 by omega)
  have m1 := Int.emod_lt_of_pos u (show 0 < yn1 by omega)
  have z := Int.mul_nonneg q0 (show 0 ≤ yn1 by omega)
  rw [Int.mul_comm] at m
  have w : IntKind.u64.wrap (u / yn1) = u / yn1 := by rw [IntKind.wrap_u64]; omega
  rw [e, w]
  refine ⟨rfl, ?_, by omega, by omega⟩
  rw [IntKind.wrap_u64, IntKind.wrap_u64]
  omega
theorem two_digits {yn u un1 un0 s : Int} (hs : 0 ≤ s) (y1 : 9223372036854775808 ≤ yn) (y2 : yn < 18446744073709551616) (hc : 0 ≤ un1) (hc2 : un1 < 4294967296) (hd : 0 ≤ un0) (hd2 : un0 < 4294967296) (hu : 0 ≤ u) (hu2 : u < yn) :
    Ev (fun k => bits_Div64.l0 k yn s (yn / 4294967296) (yn % 4294967296) u un1 un0 (IntKind.u64.wrap (Int.tdiv u (yn / 4294967296))) (IntKind.u64.wrap (u - (IntKind.u64.wrap ((IntKind.u64.wrap (Int.tdiv u (yn / 4294967296))) * (yn / 4294967296))))))
      ((u * 18446744073709551616 + un1 * 4294967296 + un0) / yn, ((u * 18446744073709551616 + un1 * 4294967296 + un0) % yn) / 2 ^ min s.toNat 64) := by
  have a1 : 2147483648 ≤ yn / 4294967296 := by omega
  have a2 : yn / 4294967296 < 4294967296 := by omega
  have a3 : 0 ≤ yn % 4294967296 := by omega
  have a4 : yn % 4294967296 < 4294967296 := by omega
  have ey : yn / 4294967296 * 4294967296 + yn % 4294967296 = yn := by omega
  obtain ⟨g1, g2, g3, g4⟩ := guess a1 a2 hu (by omega)
  obtain ⟨d1, d2, d3, d4⟩ := digit_small (u := u) a1 a2 a3 a4 hc hc2 hu (by omega)
  rw [g2, g1]
  refine loop0 a1 a2 a3 a4 hc hc2 hu (by omega) ?_ _ _ _ (Int.toNat_of_nonneg (by omega)).symm d4 rfl g3 g4
  rw [ey] at d1 d2 d3 ⊢
  generalize hQ : (u * 4294967296 + un1) / yn = Q at *
  have m := Int.mul_ediv_add_emod (u * 4294967296 + un1) yn
  have m0 := Int.emod_nonneg (u * 4294967296 + un1) (show yn ≠ 0 by omega)
  have m1 := Int.emod_lt_of_pos (u * 4294967296 + un1) (show 0 < yn by omega)
  rw [Int.mul_comm, hQ] at m
  generalize hv : (u * 4294967296 + un1) % yn = v at *
  have wv : IntKind.u64.wrap ((IntKind.u64.wrap ((IntKind.u64.wrap (u * 4294967296)) + un1)) - (IntKind.u64.wrap (Q * yn))) = v := by
    simp only [IntKind.wrap_u64]
    generalize Q * yn = Z at *
    omega
  obtain ⟨g1, g2, g3, g4⟩ := guess a1 a2 m0 (by omega)
  obtain ⟨e1, e2, e3, e4⟩ := digit_small (u := v) a1 a2 a3 a4 hd hd2 m0 (by omega)
  refine Ev_round (fun k => by rw [bits_Div64.j2]) (Ev_neg (by omega) ?_)
  rw [wv, g2, g1]
  refine loop1 hs a1 a2 a3 a4 hd hd2 m0 (by omega) ?_ _ _ _ (Int.toNat_of_nonneg (by omega)).symm e4 rfl g3 g4
  rw [ey] at e1 e2 e3 ⊢
  generalize hP : (v * 4294967296 + un0) / yn = P at *
  have n := Int.mul_ediv_add_emod (v * 4294967296 + un0) yn
  have n0 := Int.emod_nonneg (v * 4294967296 + un0) (show yn ≠ 0 by omega)
  have n1 := Int.emod_lt_of_pos (v * 4294967296 + un0) (show 0 < yn by omega)
  rw [Int.mul_comm, hP] at n
  generalize hw : (v * 4294967296 + un0) % yn = w at *
  have ww : IntKind.u64.wrap ((IntKind.u64.wrap ((IntKind.u64.wrap (v * 4294967296)) + un0)) - (IntKind.u64.wrap (P * yn))) = w := by
    simp only [IntKind.wrap_u64]
    generalize P * yn = Z at *
    omega
  have wq : IntKind.u64.wrap (IntKind.u64.wrap (Q * 4294967296) + P) = Q * 4294967296 + P := by
    simp only [IntKind.wrap_u64]
    omega
  have tot : u * 18446744073709551616 + un1 * 4294967296 + un0 = w + yn * (Q * 4294967296 + P) := by
    rw [Int.mul_add, ← Int.mul_assoc, Int.mul_comm yn Q, Int.mul_comm yn P]
    generalize Q * yn = Y at *
    generalize P * yn = Z at *
    omega
  have t1 : (u * 18446744073709551616 + un1 * 4294967296 + un0) / yn = Q * 4294967296 + P := by
    rw [tot, Int.add_mul_ediv_left _ _ (by omega), Int.ediv_eq_zero_of_lt n0 n1]
    omega
  have t2 : (u * 18446744073709551616 + un1 * 4294967296 + un0) % yn = w := by
    rw [tot, Int.add_mul_emod_self_left, Int.emod_eq_of_lt n0 n1]
  rw [ww, wq, t1, t2]
  rfl

theorem len_two {y : Int} (h0 : 0 < y) : (2 : Int) ^ (bitLen y.toNat - 1) ≤ y ∧ y < (2 : Int) ^ bitLen y.toNat ∧ 0 < bitLen y.toNat := by
  obtain ⟨n, rfl⟩ := Int.eq_ofNat_of_zero_le (show 0 ≤ y by omega)
  have hn : n ≠ 0 := by omega
  have e : ((n : Int)).toNat = n := rfl
  rw [e]
  have eb : bitLen n = n.log2 + 1 := by
    unfold bitLen
    rw [if_neg hn]
  rw [eb]
  have h1 := Nat.log2_self_le hn
  have h2 := @Nat.lt_log2_self n
  refine ⟨?_, ?_, by omega⟩
  · rw [Nat.add_sub_cancel]
    exact_mod_cast h1
  · exact_mod_cast h2
/-- The quotient and the remainder of hi * 2^64 + lo by y. -/
theorem Div64_ev {hi lo y : Int} (h0 : 0 ≤ hi) (h1 : hi < y) (hl : 0 ≤ lo) (hl2 : lo < 18446744073709551616) (hy : y < 9223372036854775808) :
    Ev (fun k => bits_Div64.f k hi lo y) ((hi * 18446744073709551616 + lo) / y, (hi * 18446744073709551616 + lo) % y) := by
  refine Ev.congr (fun k => by rw [bits_Div64.f]) (Ev_neg (by omega) (Ev_neg (by omega) ?_))
  by_cases c : hi = 0
  · refine Ev_pos c (Ev_const ?_)
    subst c
    have q0 := Int.ediv_nonneg hl (show 0 ≤ y by omega)
    have q1 : lo / y ≤ lo := Int.ediv_le_self _ hl
    rw [tdiv_nn hl, tmod_nn hl, Int.zero_mul, Int.zero_add, IntKind.wrap_u64, Int.emod_eq_of_lt q0 (by omega)]
  · refine Ev_neg c ?_
    have ll : Ev (fun k => bits_LeadingZeros64.f k y) (64 - (bitLen y.toNat : Int)) := by
      refine Ev.congr (fun k => by rw [bits_LeadingZeros64.f]) (Ev.bind (Len64_ev (by omega) (by omega)) (Ev_const ?_))
      have := len_bd (x := y) (b := 63) (by omega) (by simpa using hy)
      rw [wrap_in ⟨by omega, by omega⟩]
    refine Ev.bind ll ?_
    obtain ⟨b1, b2, b3⟩ := len_two (y := y) (by omega)
    have b4 := len_bd (x := y) (b := 63) (by omega) (by simpa using hy)
    generalize bitLen y.toNat = L at *
    obtain ⟨S, hS, hS1, hS2⟩ : ∃ S : Nat, 64 - (L : Int) = S ∧ S + L = 64 ∧ 0 < S := ⟨64 - L, by omega, by omega, by omega⟩
    rw [hS]
    have wS : IntKind.u64.wrap (S : Int) = S := by rw [IntKind.wrap_u64]; omega
    have wT : IntKind.u64.wrap (64 - (S : Int)) = L := by rw [IntKind.wrap_u64]; omega
    rw [wS, wT]
    have pS : (0 : Int) < 2 ^ S := Int.pow_pos (by decide)
    have pL : (0 : Int) < 2 ^ L := Int.pow_pos (by decide)
    have pSL : (2 : Int) ^ S * 2 ^ L = 18446744073709551616 := by rw [← Int.pow_add, hS1]; decide
    have pSL' : (2 : Int) ^ S * 2 ^ (L - 1) = 9223372036854775808 := by
      rw [← Int.pow_add]
      have : S + (L - 1) = 63 := by omega
      rw [this]
      decide
    have sl : ∀ x : Int, shl .u64 x (S : Int) = (x * 2 ^ S) % 18446744073709551616 := by
      intro x
      show IntKind.u64.wrap _ = _
      rw [IntKind.wrap_u64]
      have : min ((S : Int)).toNat IntKind.u64.bits = S := by show min S 64 = S; omega
      rw [this]
    have sr : ∀ x : Int, shr .u64 x (L : Int) = x / 2 ^ L := by
      intro x
      show _ / _ = _
      have : min ((L : Int)).toNat IntKind.u64.bits = L := by show min L 64 = L; omega
      rw [this]
    have ym : (y * 2 ^ S) % 18446744073709551616 = y * 2 ^ S := by
      refine Int.emod_eq_of_lt (Int.mul_nonneg (by omega) (by omega)) ?_
      rw [← pSL, Int.mul_comm]
      exact Int.mul_lt_mul_of_pos_left b2 pS
    have hm : (hi * 2 ^ S) % 18446744073709551616 = hi * 2 ^ S := by
      refine Int.emod_eq_of_lt (Int.mul_nonneg (by omega) (by omega)) ?_
      rw [← pSL, Int.mul_comm]
      exact Int.mul_lt_mul_of_pos_left (by omega) pS
    have y1 : 9223372036854775808 ≤ y * 2 ^ S := by
      rw [← pSL', Int.mul_comm y]
      exact Int.mul_le_mul_of_nonneg_left b1 (by omega)
    have y2 : y * 2 ^ S < 18446744073709551616 := by
      rw [← pSL, Int.mul_comm]
      exact Int.mul_lt_mul_of_pos_left b2 pS
    have d0 := Int.ediv_nonneg hl (show (0:Int) ≤ 2 ^ L by omega)
    have d1 : lo / 2 ^ L < 2 ^ S := by
      refine Int.ediv_lt_of_lt_mul pL ?_
      rw [pSL]
      exact hl2
    have orr : Go.bits .or .u64 (hi * 2 ^ S) (lo / 2 ^ L) = hi * 2 ^ S + lo / 2 ^ L := by
      have hh : hi * 2 ^ S < 18446744073709551616 := by
        rw [← pSL, Int.mul_comm]
        exact Int.mul_lt_mul_of_pos_left (by omega) pS
      have le : lo / 2 ^ L ≤ lo := Int.ediv_le_self _ hl
      refine bits_join .u64 64 (by decide) (fun n a b => ?_) S _ _ (Int.mul_nonneg (by omega) (by omega)) (Int.mul_emod_left _ _) (by simpa using hh) d0 d1 (by simpa using (by omega : lo / 2 ^ L < 18446744073709551616))
      rw [IntKind.wrap_u64]
      exact Int.emod_eq_of_lt a (by simpa using b)
    rw [sl, sl, sl, sr, ym, hm, orr]
    have lo2 : lo * 2 ^ S / 18446744073709551616 = lo / 2 ^ L := by
      rw [← pSL, Int.mul_comm lo]
      exact Int.mul_ediv_mul_of_pos _ _ pS
    have lo3 := Int.mul_ediv_add_emod (lo * 2 ^ S) 18446744073709551616
    have lo4 := Int.emod_nonneg (lo * 2 ^ S) (show (18446744073709551616 : Int) ≠ 0 by decide)
    have lo5 := Int.emod_lt_of_pos (lo * 2 ^ S) (show (0 : Int) < 18446744073709551616 by decide)
    rw [lo2] at lo3
    refine Ev_pos (by omega) (Ev_pos (by omega) (Ev_neg (by omega) ?_))
    rw [and_low32 _ (by omega) (by omega), and_low32 _ (by omega) (by omega)]
    have lt : hi * 2 ^ S + lo / 2 ^ L < y * 2 ^ S := by
      have h : (hi + 1) * 2 ^ S ≤ y * 2 ^ S := Int.mul_le_mul_of_nonneg_right (by omega) (by omega)
      rw [Int.add_mul, Int.one_mul] at h
      omega
    have hn := Int.mul_nonneg h0 (show (0:Int) ≤ 2 ^ S by omega)
    have td := two_digits (yn := y * 2 ^ S) (u := hi * 2 ^ S + lo / 2 ^ L) (un1 := (lo * 2 ^ S) % 18446744073709551616 / 4294967296) (un0 := (lo * 2 ^ S) % 18446744073709551616 % 4294967296) (s := (S : Int)) (by omega) y1 y2 (by omega) (by omega) (by omega) (by omega) (by omega) lt
    refine Ev_eq ?_ td
    have tot : (hi * 2 ^ S + lo / 2 ^ L) * 18446744073709551616 + (lo * 2 ^ S) % 18446744073709551616 / 4294967296 * 4294967296 + (lo * 2 ^ S) % 18446744073709551616 % 4294967296 = 2 ^ S * (hi * 18446744073709551616 + lo) := by
      have : 2 ^ S * (hi * 18446744073709551616 + lo) = hi * 2 ^ S * 18446744073709551616 + lo * 2 ^ S := by grind
      rw [this]
      omega
    have mn : min ((S : Int)).toNat 64 = S := by show min S 64 = S; omega
    rw [tot, mn, Int.mul_comm y, Int.mul_ediv_mul_of_pos _ _ pS, Int.mul_emod_mul_of_pos _ _ pS, Int.mul_ediv_cancel_left _ (by omega)]


/-- MulDiv, plainly: of the digits and the sign of the product. -/
def mdv (a b c : Int) : Int × Bool :=
  if c ≤ 0 then (0, false)
  else if sg a b ≥ 0 then (if mm a b / c < 9223372036854775808 then (mm a b / c, true) else (0, false))
  else if mm a b % c = 0 then (if mm a b / c ≤ 9223372036854775808 then (-(mm a b / c), true) else (0, false))
  else (if mm a b / c < 9223372036854775808 then (-(mm a b / c) - 1, true) else (0, false))
theorem MulDiv_ev {a b c : Int} (ha : IsI a) (hb : IsI b) (hc : IsI c) : Ev (fun k => num_MulDiv.f k a b c) (mdv a b c) := by
  unfold IsI at hc
  refine Ev.congr (fun k => by rw [num_MulDiv.f]) (Ev.bind (product_ev ha hb) ?_)
  unfold mdv
  have n0 := mm_nn ha hb
  have sb := sg_bd a b
  have wc : 0 ≤ c → IntKind.u64.wrap c = c := fun h => by rw [IntKind.wrap_u64]; omega
  unfold prd
  simp only []
  generalize sg a b = S at *
  generalize mm a b = P at *
  by_cases c1 : c ≤ 0
  · rw [if_pos c1]
    exact Ev_pos c1 (Ev_round (fun k => by rw [num_MulDiv.j0]) (Ev_pos rfl (Ev.now _)))
  · rw [if_neg c1]
    refine Ev_neg c1 ?_
    rw [wc (by omega)]
    have m := Int.mul_ediv_add_emod P c
    have m0 := Int.emod_nonneg P (show c ≠ 0 by omega)
    have m1 := Int.emod_lt_of_pos P (show 0 < c by omega)
    have q0 := Int.ediv_nonneg n0 (show 0 ≤ c by omega)
    by_cases c2 : P / 18446744073709551616 ≥ c
    · refine Ev_round (fun k => by rw [num_MulDiv.j0]) (Ev_pos (by simpa using c2) (Ev_const ?_))
      have big : 18446744073709551616 ≤ P / c := by
        rw [Int.le_ediv_iff_mul_le (by omega)]
        omega
      rw [if_neg (show ¬ P / c < 9223372036854775808 by omega), if_neg (show ¬ P / c ≤ 9223372036854775808 by omega)]
      repeat' split
      all_goals first | rfl | (exfalso; omega)
    · refine Ev_round (fun k => by rw [num_MulDiv.j0]) (Ev_neg (by simpa using c2) ?_)
      rw [wc (by omega)]
      have dv := Div64_ev (hi := P / 18446744073709551616) (lo := P % 18446744073709551616) (y := c) (by omega) (by omega) (by omega) (by omega) (by omega)
      have eP : P / 18446744073709551616 * 18446744073709551616 + P % 18446744073709551616 = P := by omega
      rw [eP] at dv
      have qs : P / c < 18446744073709551616 := Int.ediv_lt_of_lt_mul (by omega) (by omega)
      refine Ev.bind dv ?_
      simp only []
      generalize P / c = Q at *
      generalize P % c = R at *
      have j2 : ∀ (b : Bool) (V : Int × Bool), (b = true → (-Q, true) = V) → (b = false → (if S < 0 then (if R > 0 then (if Q < 9223372036854775808 then (-Q - 1, true) else (0, false)) else (0, false)) else (0, false)) = V) → (b = true → Q ≤ 9223372036854775808) → Ev (fun k => num_MulDiv.j2 k S Q R b) V := by
        intro b V h1 h2 h3
        refine Ev_round (fun k => by rw [num_MulDiv.j2]) ?_
        have w1 : Q ≤ 9223372036854775808 → wrap64 (IntKind.u64.wrap (-Q)) = -Q := by
          intro h
          rw [wrap64, IntKind.wrap_u64]
          omega
        have w2 : Q < 9223372036854775808 → wrap64 (IntKind.u64.wrap (IntKind.u64.wrap (-Q) - 1)) = -Q - 1 := by
          intro h
          rw [wrap64, IntKind.wrap_u64, IntKind.wrap_u64]
          omega
        by_cases hb : b = true
        · refine Ev_pos hb (Ev_const ?_)
          rw [w1 (h3 hb), h1 hb]
        · refine Ev_neg hb (Ev_const ?_)
          rw [← h2 (by simpa using hb)]
          repeat' split
          all_goals first | rfl | (rw [w2 (by omega)])
      have j1 : ∀ b : Bool, (b = true ↔ (S ≥ 0 ∧ Q < 9223372036854775808)) → Ev (fun k => num_MulDiv.j1 k S Q R b) (if S ≥ 0 then (if Q < 9223372036854775808 then (Q, true) else (0, false)) else if R = 0 then (if Q ≤ 9223372036854775808 then (-Q, true) else (0, false)) else (if Q < 9223372036854775808 then (-Q - 1, true) else (0, false))) := by
        intro b hb
        refine Ev_round (fun k => by rw [num_MulDiv.j1]) ?_
        by_cases h : S ≥ 0 ∧ Q < 9223372036854775808
        · refine Ev_pos (hb.2 h) (Ev_const ?_)
          rw [if_pos h.1, if_pos h.2, wrap_in ⟨by omega, by omega⟩]
        · refine Ev_neg (fun e => h (hb.1 e)) ?_
          by_cases s0 : S < 0
          · refine Ev_pos s0 ?_
            rw [if_neg (show ¬ S ≥ 0 by omega)]
            by_cases r0 : R = 0
            · refine Ev_pos r0 (j2 _ _ (fun e => ?_) (fun e => ?_) (fun e => by simpa using e))
              · rw [if_pos r0, if_pos (by simpa using e)]
              · rw [if_pos r0, if_neg (show ¬ Q ≤ 9223372036854775808 by simpa using e), if_pos s0, if_neg (show ¬ R > 0 by omega)]
            · refine Ev_neg r0 (j2 _ _ (fun e => by simp at e) (fun e => ?_) (fun e => by simp at e))
              rw [if_neg r0, if_pos s0, if_pos (show R > 0 by omega)]
          · refine Ev_neg s0 (j2 _ _ (fun e => by simp at e) (fun e => ?_) (fun e => by simp at e))
            rw [if_neg s0, if_pos (show S ≥ 0 by omega), if_neg (show ¬ Q < 9223372036854775808 by omega)]
      by_cases s0 : S ≥ 0
      · exact Ev_pos s0 (j1 _ (by simp; omega))
      · exact Ev_neg s0 (j1 _ (by simp; omega))
/-- Where the exact floor is an int, MulDiv tells it. -/
theorem mdv_eq {a b c : Int} (ha : IsI a) (hb : IsI b) (hc : 0 < c) : mdv a b c = if -9223372036854775808 ≤ a * b / c ∧ a * b / c ≤ 9223372036854775807 then (a * b / c, true) else (0, false) := by
  unfold mdv
  rw [if_neg (by omega)]
  have n0 := mm_nn ha hb
  have q0 := Int.ediv_nonneg n0 (show 0 ≤ c by omega)
  have pm : (sg a b ≥ 0 → a * b = mm a b) ∧ (¬ sg a b ≥ 0 → a * b = -mm a b) := by
    unfold sg mm mag
    by_cases h1 : a < 0 <;> by_cases h2 : b < 0 <;> by_cases h0 : a = 0 ∨ b = 0 <;> simp [h1, h2, h0, Int.neg_mul, Int.mul_neg] <;> (intros; rcases h0 with h | h <;> simp [h])
  by_cases s : sg a b ≥ 0
  · rw [if_pos s, pm.1 s]
    by_cases q : mm a b / c < 9223372036854775808
    · rw [if_pos q, if_pos ⟨by omega, by omega⟩]
    · rw [if_neg q, if_neg (fun h => by obtain ⟨_, h⟩ := h; omega)]
  · rw [if_neg s, pm.2 s]
    have m := Int.mul_ediv_add_emod (mm a b) c
    have m0 := Int.emod_nonneg (mm a b) (show c ≠ 0 by omega)
    have m1 := Int.emod_lt_of_pos (mm a b) (show 0 < c by omega)
    generalize mm a b / c = Q at *
    generalize mm a b % c = R at *
    by_cases r : R = 0
    · have e : -mm a b / c = -Q := by
        rw [← m, r, Int.add_zero, ← Int.mul_neg, Int.mul_ediv_cancel_left _ (by omega)]
      rw [if_pos r, e]
      by_cases q : Q ≤ 9223372036854775808
      · rw [if_pos q, if_pos ⟨by omega, by omega⟩]
      · rw [if_neg q, if_neg (fun h => by obtain ⟨h, _⟩ := h; omega)]
    · have e : -mm a b / c = -Q - 1 := by
        have : -mm a b = (c - R) + c * (-Q - 1) := by
          rw [← m, Int.mul_sub, Int.mul_neg]
          omega
        rw [this, Int.add_mul_ediv_left _ _ (by omega), Int.ediv_eq_zero_of_lt (by omega) (by omega)]
        omega
      rw [if_neg r, e]
      by_cases q : Q < 9223372036854775808
      · rw [if_pos q, if_pos ⟨by omega, by omega⟩]
      · rw [if_neg q, if_neg (fun h => by obtain ⟨h, _⟩ := h; omega)]
end Go.Proofs.Ytpjeomjingocbaa.Nm
