/- The digits and the sign of a product, and the comparison of two products. -/
import Derived.Test.YtgjeiddccfmodaaBas
import Derived.Laws.MathBits
import Derived.Test.YtgjeiddccfmodaaPAllx20
import Derived.Test.YtgjeiddccfmodaaPAllx21
import Derived.Test.YtgjeiddccfmodaaPAllx22
import Derived.Test.YtgjeiddccfmodaaPAllx30
import Derived.Test.YtgjeiddccfmodaaPAllx29
import Derived.Test.YtgjeiddccfmodaaPAllx31
namespace Go.Proofs.Ytgjeiddccfmodaa.Nm
open Go.RowKit Go.Proofs.Ytgjeiddccfmodaa.PAll Go.Proofs.YtgjeiddccfmodaaW.PrintWords Go.Proofs.YtgjeiddccfmodaaW.PrintLast Go.Proofs.YtgjeiddccfmodaaW.PrintMore Go.Proofs.Ytgjeiddccfmodaa.Bas
set_option linter.unusedVariables false
set_option linter.unusedSimpArgs false

def mag (a : Int) : Int := if a < 0 then -a else a
def mm (a b : Int) : Int := mag a * mag b
def sg (a b : Int) : Int := if a = 0 ∨ b = 0 then 0 else if (decide (a < 0) != decide (b < 0)) = true then -1 else 1
def prd (a b : Int) : Int × Int × Int := (mm a b / 18446744073709551616, mm a b % 18446744073709551616, sg a b)
theorem mag_bd {a : Int} (ha : IsI a) : 0 ≤ mag a ∧ mag a ≤ 9223372036854775808 := by
  unfold IsI at ha
  unfold mag
  split <;> omega
theorem size_eq {a : Int} (ha : IsI a) : num_size.f a = some (mag a) := by
  unfold IsI at ha
  unfold num_size.f mag
  split
  · rw [IntKind.wrap_u64, IntKind.wrap_u64]
    congr 1
    omega
  · rw [IntKind.wrap_u64]
    congr 1
    omega
theorem Mul64_eq {x y : Int} (hx0 : 0 ≤ x) (hx : x < 18446744073709551616) (hy0 : 0 ≤ y) (hy : y < 18446744073709551616) : bits_Mul64.f x y = some (x * y / 18446744073709551616, x * y % 18446744073709551616) := by
  unfold bits_Mul64.f
  simp only [IntKind.wrap_u64]
  rw [and_low32 x hx0 hx, and_low32 y hy0 hy, and_low32 _ (Int.emod_nonneg _ (by decide)) (Int.emod_lt_of_pos _ (by decide)), mul64_arith x y hx0 hx hy0 hy]
theorem mm_zero {a b : Int} (h : a = 0 ∨ b = 0) : mm a b = 0 := by
  unfold mm mag
  rcases h with h | h <;> subst h <;> simp
theorem mm_nn {a b : Int} (ha : IsI a) (hb : IsI b) : 0 ≤ mm a b := Int.mul_nonneg (mag_bd ha).1 (mag_bd hb).1
theorem product_ev {a b : Int} (ha : IsI a) (hb : IsI b) : Ev (fun k => num_product.f k a b) (prd a b) := by
  refine Ev.congr (fun k => by rw [num_product.f]) ?_
  have ma := mag_bd ha
  have mb := mag_bd hb
  refine Ev.bind (Ev_const (size_eq ha)) (Ev.bind (Ev_const (size_eq hb)) (Ev.bind (Ev_const (Mul64_eq ma.1 (by omega) mb.1 (by omega))) ?_))
  have z : ∀ t : Bool, t = true → (a = 0 ∨ b = 0) → Ev (fun k => num_product.j0 k a b (mag a * mag b / 18446744073709551616) (mag a * mag b % 18446744073709551616) t) (prd a b) := by
    intro t ht h
    refine Ev_round (fun k => by rw [num_product.j0]) (Ev_pos ht (Ev_eq ?_ (Ev.now _)))
    unfold prd sg
    rw [mm_zero h, if_pos h]
    rfl
  by_cases c : a = 0
  · exact Ev_pos c (z _ rfl (.inl c))
  · refine Ev_neg c ?_
    by_cases c2 : b = 0
    · exact z _ (by simpa using c2) (.inr c2)
    · refine Ev_round (fun k => by rw [num_product.j0]) (Ev_neg (by simpa using c2) ?_)
      unfold prd sg
      rw [if_neg (show ¬ (a = 0 ∨ b = 0) by omega)]
      by_cases c3 : (decide (a < 0) != decide (b < 0)) = true
      · exact Ev_pos c3 (Ev_eq (by rw [if_pos c3]; rfl) (Ev.now _))
      · exact Ev_neg c3 (Ev_eq (by rw [if_neg c3]; rfl) (Ev.now _))
theorem sg_bd (a b : Int) : sg a b = -1 ∨ sg a b = 0 ∨ sg a b = 1 := by
  unfold sg
  repeat' split
  all_goals omega
/-- CmpMul, plainly. -/
def cmp (a b c d : Int) : Int := if sg a b < sg c d then -1 else if sg c d < sg a b then 1 else if mm a b < mm c d then -sg a b else if mm c d < mm a b then sg a b else 0
theorem CmpMul_ev {a b c d : Int} (ha : IsI a) (hb : IsI b) (hc : IsI c) (hd : IsI d) : Ev (fun k => num_CmpMul.f k a b c d) (cmp a b c d) := by
  refine Ev.congr (fun k => by rw [num_CmpMul.f]) ?_
  refine Ev.bind (product_ev ha hb) (Ev.bind (product_ev hc hd) ?_)
  have s := sg_bd a b
  have w : wrap64 (-(prd a b).2.2) = -sg a b := wrap_in ⟨by show _ ≤ -sg a b; omega, by show -sg a b ≤ _; omega⟩
  refine Ev_const ?_
  rw [w]
  unfold cmp prd
  simp only []
  have n1 := mm_nn ha hb
  have n2 := mm_nn hc hd
  repeat' split
  all_goals first | rfl | (exfalso; omega)
theorem sg_comm (a b : Int) : sg b a = sg a b := by
  unfold sg
  rw [show (decide (b < 0) != decide (a < 0)) = (decide (a < 0) != decide (b < 0)) from by cases decide (a < 0) <;> cases decide (b < 0) <;> rfl]
  by_cases h : a = 0 ∨ b = 0
  · rw [if_pos h, if_pos h.symm]
  · rw [if_neg h, if_neg (fun h' => h h'.symm)]
theorem mm_comm (a b : Int) : mm b a = mm a b := Int.mul_comm _ _
theorem cmp_bd (a b c d : Int) : -1 ≤ cmp a b c d ∧ cmp a b c d ≤ 1 := by
  have := sg_bd a b
  unfold cmp
  repeat' split
  all_goals omega
theorem cmp_anti (a b c d : Int) : cmp c d a b = -cmp a b c d := by
  unfold cmp
  repeat' split
  all_goals omega
theorem cmp_comm (a b c d : Int) : cmp b a c d = cmp a b c d := by
  unfold cmp
  rw [sg_comm, mm_comm]
theorem cmp_self (a b : Int) : cmp a b b a = 0 := by
  unfold cmp
  rw [sg_comm, mm_comm]
  repeat' split
  all_goals omega

theorem Mag_eq {a : Int} (ha : IsI a) : mapmakerref01_Mag.f a = some (mag a) := by
  unfold IsI at ha
  unfold mapmakerref01_Mag.f mag
  split
  · rw [wrap_in (x := a + 1) ⟨by omega, by omega⟩, wrap_in (x := -(a + 1)) ⟨by omega, by omega⟩, IntKind.wrap_u64, IntKind.wrap_u64]
    congr 1
    omega
  · rw [IntKind.wrap_u64]
    congr 1
    omega
theorem Times_eq {x y : Int} (hx0 : 0 ≤ x) (hx : x < 18446744073709551616) (hy0 : 0 ≤ y) (hy : y < 18446744073709551616) : mapmakerref01_Times.f x y = some (x * y / 18446744073709551616, x * y % 18446744073709551616) := by
  unfold mapmakerref01_Times.f
  simp only [IntKind.wrap_u64]
  rw [tdiv_nn (a := x) hx0, tdiv_nn (a := y) hy0, tmod_nn (a := x) hx0, tmod_nn (a := y) hy0]
  have ex : x = x / 4294967296 * 4294967296 + x % 4294967296 := by omega
  have ey : y = y / 4294967296 * 4294967296 + y % 4294967296 := by omega
  generalize hx1 : x / 4294967296 = x1 at *
  generalize hx0' : x % 4294967296 = x0 at *
  generalize hy1 : y / 4294967296 = y1 at *
  generalize hy0' : y % 4294967296 = y0 at *
  have b1 : 0 ≤ x1 ∧ x1 ≤ 4294967295 := by omega
  have b2 : 0 ≤ x0 ∧ x0 ≤ 4294967295 := by omega
  have b3 : 0 ≤ y1 ∧ y1 ≤ 4294967295 := by omega
  have b4 : 0 ≤ y0 ∧ y0 ≤ 4294967295 := by omega
  rw [Int.emod_eq_of_lt (a := x1) b1.1 (by omega), Int.emod_eq_of_lt (a := y1) b3.1 (by omega)]
  have pA := prod_bound x1 y1 b1.1 b1.2 b3.1 b3.2
  have pB := prod_bound x1 y0 b1.1 b1.2 b4.1 b4.2
  have pC := prod_bound x0 y0 b2.1 b2.2 b4.1 b4.2
  have pD := prod_bound x0 y1 b2.1 b2.2 b3.1 b3.2
  have hxy : x * y = x1 * y1 * 18446744073709551616 + (x1 * y0 + x0 * y1) * 4294967296 + x0 * y0 := by rw [ex, ey]; exact split_mul x1 x0 y1 y0
  rw [hxy]
  generalize x1 * y1 = A at *
  generalize x1 * y0 = B at *
  generalize x0 * y0 = C at *
  generalize x0 * y1 = D at *
  clear hxy ex ey hx1 hx0' hy1 hy0'
  rw [Int.emod_eq_of_lt (a := C) pC.1 (by omega), tdiv_nn (a := C) pC.1, tmod_nn (a := C) pC.1, Int.emod_eq_of_lt (a := B) pB.1 (by omega), Int.emod_eq_of_lt (a := A) pA.1 (by omega), Int.emod_eq_of_lt (a := D) pD.1 (by omega), Int.emod_eq_of_lt (a := C / 4294967296) (by omega) (by omega)]
  rw [Int.emod_eq_of_lt (a := B + C / 4294967296) (by omega) (by omega), tdiv_nn (a := B + C / 4294967296) (by omega), tmod_nn (a := B + C / 4294967296) (by omega)]
  rw [Int.emod_eq_of_lt (a := D + (B + C / 4294967296) % 4294967296) (by omega) (by omega), tdiv_nn (a := D + (B + C / 4294967296) % 4294967296) (by omega), tmod_nn (a := D + (B + C / 4294967296) % 4294967296) (by omega)]
  refine congrArg some (Prod.ext ?_ ?_)
  · simp only []
    omega
  · simp only []
    omega
theorem rsign_ev (a b : Int) : Ev (fun k => mapmakerref01_sign.f k a b) (sg a b) := by
  refine Ev.congr (fun k => by rw [mapmakerref01_sign.f]) ?_
  have z : ∀ t : Bool, t = true → (a = 0 ∨ b = 0) → Ev (fun k => mapmakerref01_sign.j0 k a b t) (sg a b) := fun t ht h =>
    Ev_round (fun k => by rw [mapmakerref01_sign.j0]) (Ev_pos ht (Ev_eq (by unfold sg; rw [if_pos h]) (Ev.now _)))
  by_cases c : a = 0
  · exact Ev_pos c (z _ rfl (.inl c))
  · refine Ev_neg c ?_
    by_cases c2 : b = 0
    · exact z _ (by simpa using c2) (.inr c2)
    · refine Ev_round (fun k => by rw [mapmakerref01_sign.j0]) (Ev_neg (by simpa using c2) ?_)
      unfold sg
      rw [if_neg (show ¬ (a = 0 ∨ b = 0) by omega)]
      exact Ev_ite (fun _ => Ev.now _) (fun _ => Ev.now _)
theorem rCmpMul_ev {a b c d : Int} (ha : IsI a) (hb : IsI b) (hc : IsI c) (hd : IsI d) : Ev (fun k => mapmakerref01_CmpMul.f k a b c d) (cmp a b c d) := by
  refine Ev.congr (fun k => by rw [mapmakerref01_CmpMul.f]) ?_
  refine Ev.bind (rsign_ev a b) (Ev.bind (rsign_ev c d) ?_)
  have s := sg_bd a b
  have w : wrap64 (-sg a b) = -sg a b := wrap_in ⟨by omega, by omega⟩
  unfold cmp
  refine Ev_ite (fun _ => Ev.now _) (fun h1 => Ev_ite (fun _ => Ev.now _) (fun h2 => ?_))
  have ma := mag_bd ha
  have mb := mag_bd hb
  have mc := mag_bd hc
  have md := mag_bd hd
  have n1 := mm_nn ha hb
  have n2 := mm_nn hc hd
  refine Ev.bind (Ev_const (Mag_eq ha)) (Ev.bind (Ev_const (Mag_eq hb)) (Ev.bind (Ev_const (Times_eq ma.1 (by omega) mb.1 (by omega))) ?_))
  refine Ev.bind (Ev_const (Mag_eq hc)) (Ev.bind (Ev_const (Mag_eq hd)) (Ev.bind (Ev_const (Times_eq mc.1 (by omega) md.1 (by omega))) ?_))
  show Ev (fun k => if mm a b / 18446744073709551616 = mm c d / 18446744073709551616 then mapmakerref01_CmpMul.j0 k (sg a b) (mm a b / 18446744073709551616) (mm a b % 18446744073709551616) (mm c d / 18446744073709551616) (mm c d % 18446744073709551616) (mm a b % 18446744073709551616 == mm c d % 18446744073709551616) else mapmakerref01_CmpMul.j0 k (sg a b) (mm a b / 18446744073709551616) (mm a b % 18446744073709551616) (mm c d / 18446744073709551616) (mm c d % 18446744073709551616) false) _
  have j : ∀ t : Bool, (t = true ↔ mm a b = mm c d) → Ev (fun k => mapmakerref01_CmpMul.j0 k (sg a b) (mm a b / 18446744073709551616) (mm a b % 18446744073709551616) (mm c d / 18446744073709551616) (mm c d % 18446744073709551616) t) (if mm a b < mm c d then -sg a b else if mm c d < mm a b then sg a b else 0) := by
    intro t ht
    refine Ev_round (fun k => by rw [mapmakerref01_CmpMul.j0]) ?_
    by_cases e : mm a b = mm c d
    · exact Ev_pos (ht.2 e) (Ev_eq (by rw [if_neg (by omega), if_neg (by omega)]) (Ev.now _))
    · refine Ev_neg (fun h => e (ht.1 h)) (Ev_const ?_)
      rw [w]
      repeat' split
      all_goals first | rfl | (exfalso; omega)
  by_cases e : mm a b / 18446744073709551616 = mm c d / 18446744073709551616
  · exact Ev_pos e (j _ (by rw [beq_iff_eq]; omega))
  · exact Ev_neg e (j false ⟨(fun h => by cases h), (fun h => absurd (by rw [h]) e)⟩)
end Go.Proofs.Ytgjeiddccfmodaa.Nm
