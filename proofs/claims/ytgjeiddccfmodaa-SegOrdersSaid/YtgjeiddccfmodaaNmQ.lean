/- The reference's products: Mag, Times, sign and CmpMul. -/
import Derived.Test.YtgjeiddccfmodaaNmP
import Derived.Test.YtgjeiddccfmodaaPAllx30
import Derived.Test.YtgjeiddccfmodaaPAllx29
import Derived.Test.YtgjeiddccfmodaaPAllx31
namespace Go.Proofs.Ytgjeiddccfmodaa.Nm
open Go.RowKit Go.Proofs.Ytgjeiddccfmodaa.PAll Go.Proofs.YtgjeiddccfmodaaW.PrintWords Go.Proofs.YtgjeiddccfmodaaW.PrintLast Go.Proofs.YtgjeiddccfmodaaW.PrintMore Go.Proofs.Ytgjeiddccfmodaa.Bas
set_option linter.unusedVariables false
set_option linter.unusedSimpArgs false

theorem Mag_eq {a : Int} (ha : IsI a) : mapmakerref01_Mag.f a = some (mag a) := by
  unfold IsI at ha
  unfold mapmakerref01_Mag.f mag
  split
  · rw [wrap_in (x := a + 1) ⟨by omega, by omega⟩, wrap_in (x := -(a + 1)) ⟨by omega, by omega⟩, IntKind.wrap_u64, IntKind.wrap_u64]
    congr 1
    omega
  · rw [IntKind.wrap_u64]
    congr 1
    omega
theorem Times_eq {x y : Int} (hx0 : 0 ≤ x) (hx : x < 18446744073709551616) (hy0 : 0 ≤ y) (hy : y < 18446744073709551616) : mapmakerref01_Times.f x y = some (x * y / 18446744073709551616, x * y % 18446744073709551616) := by
  unfold mapmakerref01_Times.f
  simp only [IntKind.wrap_u64]
  rw [tdiv_nn (a := x) hx0, tdiv_nn (a := y) hy0, tmod_nn (a := x) hx0, tmod_nn (a := y) hy0]
  have ex : x = x / 4294967296 * 4294967296 + x % 4294967296 := by omega
  have ey : y = y / 4294967296 * 4294967296 + y % 4294967296 := by omega
  generalize hx1 : x / 4294967296 = x1 at *
  generalize hx0' : x % 4294967296 = x0 at *
  generalize hy1 : y / 4294967296 = y1 at *
  generalize hy0' : y % 4294967296 = y0 at *
  have b1 : 0 ≤ x1 ∧ x1 ≤ 4294967295 := by omega
  have b2 : 0 ≤ x0 ∧ x0 ≤ 4294967295 := by omega
  have b3 : 0 ≤ y1 ∧ y1 ≤ 4294967295 := by omega
  have b4 : 0 ≤ y0 ∧ y0 ≤ 4294967295 := by omega
  rw [Int.emod_eq_of_lt (a := x1) b1.1 (by omega), Int.emod_eq_of_lt (a := y1) b3.1 (by omega)]
  have pA := prod_bound x1 y1 b1.1 b1.2 b3.1 b3.2
  have pB := prod_bound x1 y0 b1.1 b1.2 b4.1 b4.2
  have pC := prod_bound x0 y0 b2.1 b2.2 b4.1 b4.2
  have pD := prod_bound x0 y1 b2.1 b2.2 b3.1 b3.2
  have hxy : x * y = x1 * y1 * 18446744073709551616 + (x1 * y0 + x0 * y1) * 4294967296 + x0 * y0 := by rw [ex, ey]; exact split_mul x1 x0 y1 y0
  rw [hxy]
  generalize x1 * y1 = A at *
  generalize x1 * y0 = B at *
  generalize x0 * y0 = C at *
  generalize x0 * y1 = D at *
  clear hxy ex ey hx1 hx0' hy1 hy0'
  rw [Int.emod_eq_of_lt (a := C) pC.1 (by omega), tdiv_nn (a := C) pC.1, tmod_nn (a := C) pC.1, Int.emod_eq_of_lt (a := B) pB.1 (by omega), Int.emod_eq_of_lt (a := A) pA.1 (by omega), Int.emod_eq_of_lt (a := D) pD.1 (by omega), Int.emod_eq_of_lt (a := C / 4294967296) (by omega) (by omega)]
  rw [Int.emod_eq_of_lt (a := B + C / 4294967296) (by omega) (by omega), tdiv_nn (a := B + C / 4294967296) (by omega), tmod_nn (a := B + C / 4294967296) (by omega)]
  rw [Int.emod_eq_of_lt (a := D + (B + C / 4294967296) % 4294967296) (by omega) (by omega), tdiv_nn (a := D + (B + C / 4294967296) % 4294967296) (by omega), tmod_nn (a := D + (B + C / 4294967296) % 4294967296) (by omega)]
  refine congrArg some (Prod.ext ?_ ?_)
  · simp only []
    omega
  · simp only []
    omega
theorem rsign_ev (a b : Int) : Ev (fun k => mapmakerref01_sign.f k a b) (sg a b) := by
  refine Ev.congr (fun k => by rw [mapmakerref01_sign.f]) ?_
  have z : ∀ t : Bool, t = true → (a = 0 ∨ b = 0) → Ev (fun k => mapmakerref01_sign.j0 k a b t) (sg a b) := fun t ht h =>
    Ev_round (fun k => by rw [mapmakerref01_sign.j0]) (Ev_pos ht (Ev_eq (by unfold sg; rw [if_pos h]) (Ev.now _)))
  by_cases c : a = 0
  · exact Ev_pos c (z _ rfl (.inl c))
  · refine Ev_neg c ?_
    by_cases c2 : b = 0
    · exact z _ (by simpa using c2) (.inr c2)
    · refine Ev_round (fun k => by rw [mapmakerref01_sign.j0]) (Ev_neg (by simpa using c2) ?_)
      unfold sg
      rw [if_neg (show ¬ (a = 0 ∨ b = 0) by omega)]
      exact Ev_ite (fun _ => Ev.now _) (fun _ => Ev.now _)
theorem rCmpMul_ev {a b c d : Int} (ha : IsI a) (hb : IsI b) (hc : IsI c) (hd : IsI d) : Ev (fun k => mapmakerref01_CmpMul.f k a b c d) (cmp a b c d) := by
  refine Ev.congr (fun k => by rw [mapmakerref01_CmpMul.f]) ?_
  refine Ev.bind (rsign_ev a b) (Ev.bind (rsign_ev c d) ?_)
  have s := sg_bd a b
  have w : wrap64 (-sg a b) = -sg a b := wrap_in ⟨by omega, by omega⟩
  unfold cmp
  refine Ev_ite (fun _ => Ev.now _) (fun h1 => Ev_ite (fun _ => Ev.now _) (fun h2 => ?_))
  have ma := mag_bd ha
  have mb := mag_bd hb
  have mc := mag_bd hc
  have md := mag_bd hd
  have n1 := mm_nn ha hb
  have n2 := mm_nn hc hd
  refine Ev.bind (Ev_const (Mag_eq ha)) (Ev.bind (Ev_const (Mag_eq hb)) (Ev.bind (Ev_const (Times_eq ma.1 (by omega) mb.1 (by omega))) ?_))
  refine Ev.bind (Ev_const (Mag_eq hc)) (Ev.bind (Ev_const (Mag_eq hd)) (Ev.bind (Ev_const (Times_eq mc.1 (by omega) md.1 (by omega))) ?_))
  show Ev (fun k => if mm a b / 18446744073709551616 = mm c d / 18446744073709551616 then mapmakerref01_CmpMul.j0 k (sg a b) (mm a b / 18446744073709551616) (mm a b % 18446744073709551616) (mm c d / 18446744073709551616) (mm c d % 18446744073709551616) (mm a b % 18446744073709551616 == mm c d % 18446744073709551616) else mapmakerref01_CmpMul.j0 k (sg a b) (mm a b / 18446744073709551616) (mm a b % 18446744073709551616) (mm c d / 18446744073709551616) (mm c d % 18446744073709551616) false) _
  have j : ∀ t : Bool, (t = true ↔ mm a b = mm c d) → Ev (fun k => mapmakerref01_CmpMul.j0 k (sg a b) (mm a b / 18446744073709551616) (mm a b % 18446744073709551616) (mm c d / 18446744073709551616) (mm c d % 18446744073709551616) t) (if mm a b < mm c d then -sg a b else if mm c d < mm a b then sg a b else 0) := by
    intro t ht
    refine Ev_round (fun k => by rw [mapmakerref01_CmpMul.j0]) ?_
    by_cases e : mm a b = mm c d
    · exact Ev_pos (ht.2 e) (Ev_eq (by rw [if_neg (by omega), if_neg (by omega)]) (Ev.now _))
    · refine Ev_neg (fun h => e (ht.1 h)) (Ev_const ?_)
      rw [w]
      repeat' split
      all_goals first | rfl | (exfalso; omega)
  by_cases e : mm a b / 18446744073709551616 = mm c d / 18446744073709551616
  · exact Ev_pos e (j _ (by rw [beq_iff_eq]; omega))
  · exact Ev_neg e (j false ⟨(fun h => by cases h), (fun h => absurd (by rw [h]) e)⟩)
end Go.Proofs.Ytgjeiddccfmodaa.Nm
