-- Written by a program of this session (wip/tools), over the words that print.sh lays.
import Derived.Test.YtbjgcfbmifpepaaPAllx0
import Derived.Test.YtbjgcfbmifpepaaPAllx23
namespace Go.Proofs.Ytbjgcfbmifpepaa.PAll
open Go.RowKit Go.Proofs.YtbjgcfbmifpepaaW.PrintWords Go.Proofs.YtbjgcfbmifpepaaW.PrintLast Go.Proofs.YtbjgcfbmifpepaaW.PrintMore
attribute [local go_sem] max2_int min2_int max_two min_two max_three min_three max_four min_four   -- for this text's walks alone
set_option linter.unusedVariables false
set_option linter.unusedSimpArgs false
attribute [local irreducible] Calls

/-! ### mapmakerref01_MulDiv: function 23 -/
def mapmakerref01_MulDiv.l0 : Nat → Int → Int → Bool → Int → Int → Int → Int → Int → Option (Int × Bool)
 | 0, _, _, _, _, _, _, _, _ => none
 | k + 1, x8, x9, x10, x11, x12, x13, x14, x15 => if x15 < 128 then (if (IntKind.u64.wrap ((IntKind.u64.wrap (x12 * 2)) + (IntKind.u64.wrap (Int.tdiv x8 9223372036854775808)))) ≥ x11 then (mapmakerref01_MulDiv.l0 k (IntKind.u64.wrap ((IntKind.u64.wrap (x8 * 2)) + (IntKind.u64.wrap (Int.tdiv x9 9223372036854775808)))) (IntKind.u64.wrap (x9 * 2)) x10 x11 (IntKind.u64.wrap ((IntKind.u64.wrap ((IntKind.u64.wrap (x12 * 2)) + (IntKind.u64.wrap (Int.tdiv x8 9223372036854775808)))) - x11)) (IntKind.u64.wrap ((IntKind.u64.wrap (x13 * 2)) + (IntKind.u64.wrap (Int.tdiv x14 9223372036854775808)))) (IntKind.u64.wrap ((IntKind.u64.wrap (x14 * 2)) + 1)) (wrap64 (x15 + 1))) else (mapmakerref01_MulDiv.l0 k (IntKind.u64.wrap ((IntKind.u64.wrap (x8 * 2)) + (IntKind.u64.wrap (Int.tdiv x9 9223372036854775808)))) (IntKind.u64.wrap (x9 * 2)) x10 x11 (IntKind.u64.wrap ((IntKind.u64.wrap (x12 * 2)) + (IntKind.u64.wrap (Int.tdiv x8 9223372036854775808)))) (IntKind.u64.wrap ((IntKind.u64.wrap (x13 * 2)) + (IntKind.u64.wrap (Int.tdiv x14 9223372036854775808)))) (IntKind.u64.wrap (x14 * 2)) (wrap64 (x15 + 1)))) else (if x10 = true then (if x12 > 0 then (if (IntKind.u64.wrap (x14 + 1)) = 0 then (if (IntKind.u64.wrap (x13 + 1)) > 0 then (some (0, false)) else (if (IntKind.u64.wrap (x14 + 1)) > 9223372036854775808 then (some (0, false)) else (if (IntKind.u64.wrap (x14 + 1)) > 0 then (some (wrap64 ((wrap64 (-(wrap64 (IntKind.u64.wrap ((IntKind.u64.wrap (x14 + 1)) - 1))))) - 1), true)) else (some (wrap64 (IntKind.u64.wrap (x14 + 1)), true))))) else (if x13 > 0 then (some (0, false)) else (if (IntKind.u64.wrap (x14 + 1)) > 9223372036854775808 then (some (0, false)) else (if (IntKind.u64.wrap (x14 + 1)) > 0 then (some (wrap64 ((wrap64 (-(wrap64 (IntKind.u64.wrap ((IntKind.u64.wrap (x14 + 1)) - 1))))) - 1), true)) else (some (wrap64 (IntKind.u64.wrap (x14 + 1)), true)))))) else (if x13 > 0 then (some (0, false)) else (if x14 > 9223372036854775808 then (some (0, false)) else (if x14 > 0 then (some (wrap64 ((wrap64 (-(wrap64 (IntKind.u64.wrap (x14 - 1))))) - 1), true)) else (some (wrap64 (x14), true)))))) else (if x13 > 0 then (some (0, false)) else (if x14 > 9223372036854775808 then (some (0, false)) else (if x14 > 9223372036854775807 then (some (0, false)) else (some (wrap64 (x14), true))))))
def mapmakerref01_MulDiv.f (k : Nat) (a0 : Int) (a1 : Int) (a2 : Int) : Option (Int × Bool) := if a2 ≤ 0 then (some (0, false)) else ((mapmakerref01_Mag.f a0).bind fun t148 => ((mapmakerref01_Mag.f a1).bind fun t149 => ((mapmakerref01_Times.f t148 t149).bind fun bt150 => (mapmakerref01_MulDiv.l0 k bt150.1 bt150.2 ((decide (a0 < 0)) != (decide (a1 < 0))) (IntKind.u64.wrap (a2)) 0 0 0 0))))
theorem mapmakerref01_MulDiv.mono_l : ∀ k, (∀ y0 y1 y2 y3 y4 y5 y6 y7, LeO (mapmakerref01_MulDiv.l0 k y0 y1 y2 y3 y4 y5 y6 y7) (mapmakerref01_MulDiv.l0 (k + 1) y0 y1 y2 y3 y4 y5 y6 y7))
 | 0 => fun _ _ _ _ _ _ _ _ r h => by simp [mapmakerref01_MulDiv.l0] at h
 | k + 1 => by
  have ih0 := mapmakerref01_MulDiv.mono_l k
  ·intro y0 y1 y2 y3 y4 y5 y6 y7
   unfold mapmakerref01_MulDiv.l0
   repeat' first
   | (with_reducible exact ih0 _ _ _ _ _ _ _ _)
   | (with_reducible exact LeO.refl _)
   | (with_reducible exact LeO.none _)
   | (with_reducible refine LeO.ite ?_ ?_)
   | (with_reducible refine LeO.bind ?_ (fun _ => ?_))
   | exact ih0 _ _ _ _ _ _ _ _
   | exact LeO.none _
   | refine LeO.ite ?_ ?_
   | refine LeO.bind ?_ (fun _ => ?_)
theorem mapmakerref01_MulDiv.mono : ∀ a0 a1 a2 k, LeO (mapmakerref01_MulDiv.f k a0 a1 a2) (mapmakerref01_MulDiv.f (k + 1) a0 a1 a2) := by
 intro a0 a1 a2 k
 have ih0 := mapmakerref01_MulDiv.mono_l k
 unfold mapmakerref01_MulDiv.f
 repeat' first
   | (with_reducible exact ih0 _ _ _ _ _ _ _ _)
   | (with_reducible exact LeO.refl _)
   | (with_reducible exact LeO.none _)
   | (with_reducible refine LeO.ite ?_ ?_)
   | (with_reducible refine LeO.bind ?_ (fun _ => ?_))
   | exact ih0 _ _ _ _ _ _ _ _
   | exact LeO.none _
   | refine LeO.ite ?_ ?_
   | refine LeO.bind ?_ (fun _ => ?_)
set_option maxHeartbeats 8000000 in
set_option maxRecDepth 100000 in
theorem mapmakerref01_MulDiv.calls (k : Nat) (a0 : Int) (a1 : Int) (a2 : Int) (r1 : Int) (r2 : Bool) (w : World) (h : mapmakerref01_MulDiv.f k a0 a1 a2 = some (r1, r2)) :
  Calls Try.prog 23 #[.int .i64 a0, .int .i64 a1, .int .i64 a2] w fun e w' => e = .returned (.tuple #[.int .i64 r1, .bool r2]) ∧ Drawn0 w w' := by
 have H : (if a2 ≤ 0 then (some (0, false)) else ((mapmakerref01_Mag.f a0).bind fun t148 => ((mapmakerref01_Mag.f a1).bind fun t149 => ((mapmakerref01_Times.f t148 t149).bind fun bt150 => (mapmakerref01_MulDiv.l0 k bt150.1 bt150.2 ((decide (a0 < 0)) != (decide (a1 < 0))) (IntKind.u64.wrap (a2)) 0 0 0 0))))) = some (r1, r2) := h
 clear h
 by_cases c4 : a2 ≤ 0
 ·rw [if_pos c4] at H
  have c4b0 : decide (a2 ≤ 0) = true := decide_eq_true c4
  clear c4
  simp only [Option.some.injEq, Prod.mk.injEq] at H
  obtain ⟨rfl, rfl⟩ := H
  go_enter Try.func23, Try.ntmps23
  go_wp2
  go_ret2
  exact ⟨by first | rfl | (simp; done) | (simp [*]; done), by repeat (first | exact Drawn0.refl _ | apply Drawn0.step)⟩
 ·rw [if_neg c4] at H
  have c4b0 : decide (a2 ≤ 0) = false := decide_eq_false c4
  clear c4
  replace H := Option.bind_eq_some_iff.mp H
  obtain ⟨t148, A50, H⟩ := H
  replace H : ((mapmakerref01_Mag.f a1).bind fun t149 => ((mapmakerref01_Times.f t148 t149).bind fun bt150 => (mapmakerref01_MulDiv.l0 k bt150.1 bt150.2 ((decide (a0 < 0)) != (decide (a1 < 0))) (IntKind.u64.wrap (a2)) 0 0 0 0))) = some (r1, r2) := H
  have A5 := Aside0.mk A50
  clear A50
  replace H := Option.bind_eq_some_iff.mp H
  obtain ⟨t149, A60, H⟩ := H
  replace H : ((mapmakerref01_Times.f t148 t149).bind fun bt150 => (mapmakerref01_MulDiv.l0 k bt150.1 bt150.2 ((decide (a0 < 0)) != (decide (a1 < 0))) (IntKind.u64.wrap (a2)) 0 0 0 0)) = some (r1, r2) := H
  have A6 := Aside0.mk A60
  clear A60
  replace H := Option.bind_eq_some_iff.mp H
  obtain ⟨⟨t150, t151⟩, A70, H⟩ := H
  replace H : (mapmakerref01_MulDiv.l0 k t150 t151 ((decide (a0 < 0)) != (decide (a1 < 0))) (IntKind.u64.wrap (a2)) 0 0 0 0) = some (r1, r2) := H
  have A7 := Aside0.mk A70
  clear A70
  have H' := Aside0.mk H
  clear H
  go_enter Try.func23, Try.ntmps23
  go_wp2_with (first | ((with_reducible refine gate_callee (f := 29) rfl ?_); refine goesL_ (some 21) rfl rfl Try.func29 (by kernel_rfl) rfl #[.int .i64 a0] rfl (by (try simp only [List.map_toArray, List.map_cons, List.map_nil]); first | done | rfl | (simp only [List.length_drop, List.length_take]; rfl)) ?_; (with_reducible refine (mapmakerref01_Mag.calls a0 t148 _ A5.out).mono ?_); rintro e w' ⟨rfl, ⟨nd, rfl⟩⟩; refine ⟨_, rfl, ?_⟩) | ((with_reducible refine gate_callee (f := 29) rfl ?_); refine goesL_ (some 23) rfl rfl Try.func29 (by kernel_rfl) rfl #[.int .i64 a1] rfl (by (try simp only [List.map_toArray, List.map_cons, List.map_nil]); first | done | rfl | (simp only [List.length_drop, List.length_take]; rfl)) ?_; (with_reducible refine (mapmakerref01_Mag.calls a1 t149 _ A6.out).mono ?_); rintro e w' ⟨rfl, ⟨nd, rfl⟩⟩; refine ⟨_, rfl, ?_⟩) | ((with_reducible refine gate_callee (f := 28) rfl ?_); refine goesL_ (some 24) rfl rfl Try.func28 (by kernel_rfl) rfl #[.int .u64 t148, .int .u64 t149] rfl (by (try simp only [List.map_toArray, List.map_cons, List.map_nil]); first | done | rfl | (simp only [List.length_drop, List.length_take]; rfl)) ?_; (with_reducible refine (mapmakerref01_Times.calls t148 t149 t150 t151 _ A7.out).mono ?_); rintro e w' ⟨rfl, ⟨nd, rfl⟩⟩; refine ⟨_, rfl, ?_⟩))
  go_loopg [8, 9, 12, 13, 14, 15] k (fun kq v8 v9 v12 v13 v14 v15 w' => ∃ (x8_1 : Int) (x9_1 : Int) (x12_1 : Int) (x13_1 : Int) (x14_1 : Int) (x15_1 : Int), v8 = .int .u64 x8_1 ∧ v9 = .int .u64 x9_1 ∧ v12 = .int .u64 x12_1 ∧ v13 = .int .u64 x13_1 ∧ v14 = .int .u64 x14_1 ∧ v15 = .int .i64 x15_1 ∧ Aside0 (mapmakerref01_MulDiv.l0 kq x8_1 x9_1 ((decide (a0 < 0)) != (decide (a1 < 0))) (IntKind.u64.wrap (a2)) x12_1 x13_1 x14_1 x15_1 = some (r1, r2)) ∧ Aside0 (kq ≤ k) ∧ Drawn0 w w')
  case atStart => exact ⟨(t150), (t151), (0), (0), (0), (0), (by first | rfl | (simp; done) | (simp [*]; done)), (by first | rfl | (simp; done) | (simp [*]; done)), (by first | rfl | (simp; done) | (simp [*]; done)), (by first | rfl | (simp; done) | (simp [*]; done)), (by first | rfl | (simp; done) | (simp [*]; done)), (by first | rfl | (simp; done) | (simp [*]; done)), H', ⟨Nat.le_refl _⟩, by repeat (first | exact Drawn0.refl _ | apply Drawn0.step)⟩
  case round =>
   clear H'
   try clear c2
   try clear p2
   try clear c4
   try clear c4b0
   obtain ⟨x8_1, x9_1, x12_1, x13_1, x14_1, x15_1, rfl, rfl, rfl, rfl, rfl, rfl, HA, HK1, ⟨m1, rfl⟩⟩ := hrel
   cases gk with
   | zero => exact absurd HA.out (by simp [mapmakerref01_MulDiv.l0])
   | succ k1 =>
    have H := HA.out
    clear HA
    simp only [mapmakerref01_MulDiv.l0] at H
    by_cases c8 : x15_1 < 128
    ·rw [if_pos c8] at H
     have c8b0 : decide (x15_1 < 128) = true := decide_eq_true c8
     clear c8
     by_cases c9 : (IntKind.u64.wrap ((IntKind.u64.wrap (x12_1 * 2)) + (IntKind.u64.wrap (Int.tdiv x8_1 9223372036854775808)))) ≥ (IntKind.u64.wrap (a2))
     ·rw [if_pos c9] at H
      have c9b0 : decide ((IntKind.u64.wrap (a2)) ≤ (IntKind.u64.wrap ((IntKind.u64.wrap (x12_1 * 2)) + (IntKind.u64.wrap (Int.tdiv x8_1 9223372036854775808))))) = true := decide_eq_true c9
      clear c9
      have H' := Aside0.mk H
      clear H
      go_wp2
      go_roundg k1
      case measure => have := HK1.out; omega
      case rel => exact ⟨(IntKind.u64.wrap ((IntKind.u64.wrap (x8_1 * 2)) + (IntKind.u64.wrap (Int.tdiv x9_1 9223372036854775808)))), (IntKind.u64.wrap (x9_1 * 2)), (IntKind.u64.wrap ((IntKind.u64.wrap ((IntKind.u64.wrap (x12_1 * 2)) + (IntKind.u64.wrap (Int.tdiv x8_1 9223372036854775808)))) - (IntKind.u64.wrap (a2)))), (IntKind.u64.wrap ((IntKind.u64.wrap (x13_1 * 2)) + (IntKind.u64.wrap (Int.tdiv x14_1 9223372036854775808)))), (IntKind.u64.wrap ((IntKind.u64.wrap (x14_1 * 2)) + 1)), (wrap64 (x15_1 + 1)), (by first | rfl | (simp; done) | (simp [*]; done)), (by first | rfl | (simp; done) | (simp [*]; done)), (by first | rfl | (simp; done) | (simp [*]; done)), (by first | rfl | (simp; done) | (simp [*]; done)), (by first | rfl | (simp; done) | (simp [*]; done)), (by first | rfl | (simp; done) | (simp [*]; done)), H', ⟨by have := HK1.out; omega⟩, by repeat (first | exact Drawn0.refl _ | apply Drawn0.step)⟩
     ·rw [if_neg c9] at H
      have c9b0 : decide ((IntKind.u64.wrap (a2)) ≤ (IntKind.u64.wrap ((IntKind.u64.wrap (x12_1 * 2)) + (IntKind.u64.wrap (Int.tdiv x8_1 9223372036854775808))))) = false := decide_eq_false c9
      clear c9
      have H' := Aside0.mk H
      clear H
      go_wp2
      go_roundg k1
      case measure => have := HK1.out; omega
      case rel => exact ⟨(IntKind.u64.wrap ((IntKind.u64.wrap (x8_1 * 2)) + (IntKind.u64.wrap (Int.tdiv x9_1 9223372036854775808)))), (IntKind.u64.wrap (x9_1 * 2)), (IntKind.u64.wrap ((IntKind.u64.wrap (x12_1 * 2)) + (IntKind.u64.wrap (Int.tdiv x8_1 9223372036854775808)))), (IntKind.u64.wrap ((IntKind.u64.wrap (x13_1 * 2)) + (IntKind.u64.wrap (Int.tdiv x14_1 9223372036854775808)))), (IntKind.u64.wrap (x14_1 * 2)), (wrap64 (x15_1 + 1)), (by first | rfl | (simp; done) | (simp [*]; done)), (by first | rfl | (simp; done) | (simp [*]; done)), (by first | rfl | (simp; done) | (simp [*]; done)), (by first | rfl | (simp; done) | (simp [*]; done)), (by first | rfl | (simp; done) | (simp [*]; done)), (by first | rfl | (simp; done) | (simp [*]; done)), H', ⟨by have := HK1.out; omega⟩, by repeat (first | exact Drawn0.refl _ | apply Drawn0.step)⟩
    ·rw [if_neg c8] at H
     have c8b0 : decide (x15_1 < 128) = false := decide_eq_false c8
     clear c8
     by_cases c10 : ((decide (a0 < 0)) != (decide (a1 < 0))) = true
     ·rw [if_pos c10] at H
      have c10b0 : ((decide (a0 < 0)) != (decide (a1 < 0))) = true := c10
      (try (have c10b1 : decide ((decide (a0 < 0)) = (decide (a1 < 0))) = false := by simpa using c10))
      (try (have c10b2 : ((decide (a0 < 0)) == (decide (a1 < 0))) = false := by simpa using c10))
      (try (have c10b3 : ¬ ((decide (a0 < 0)) = (decide (a1 < 0))) := by simpa using c10))
      clear c10
      by_cases c11 : x12_1 > 0
      ·rw [if_pos c11] at H
       have c11b0 : decide (0 < x12_1) = true := decide_eq_true c11
       clear c11
       by_cases c12 : (IntKind.u64.wrap (x14_1 + 1)) = 0
       ·rw [if_pos c12] at H
        have c12b0 : ((IntKind.u64.wrap (x14_1 + 1)) == 0) = true := beq_iff_eq.mpr c12
        have c12b1 : ((IntKind.u64.wrap (x14_1 + 1)) != 0) = false := bne_eq_false_iff_eq.mpr c12
        clear c12
        by_cases c13 : (IntKind.u64.wrap (x13_1 + 1)) > 0
        ·rw [if_pos c13] at H
         have c13b0 : decide (0 < (IntKind.u64.wrap (x13_1 + 1))) = true := decide_eq_true c13
         clear c13
         simp only [Option.some.injEq, Prod.mk.injEq] at H
         obtain ⟨rfl, rfl⟩ := H
         go_wp2
         go_ret2
         exact ⟨by first | rfl | (simp; done) | (simp [*]; done), by repeat (first | exact Drawn0.refl _ | apply Drawn0.step)⟩
        ·rw [if_neg c13] at H
         have c13b0 : decide (0 < (IntKind.u64.wrap (x13_1 + 1))) = false := decide_eq_false c13
         clear c13
         by_cases c14 : (IntKind.u64.wrap (x14_1 + 1)) > 9223372036854775808
         ·rw [if_pos c14] at H
          have c14b0 : decide (9223372036854775808 < (IntKind.u64.wrap (x14_1 + 1))) = true := decide_eq_true c14
          clear c14
          simp only [Option.some.injEq, Prod.mk.injEq] at H
          obtain ⟨rfl, rfl⟩ := H
          go_wp2
          go_ret2
          exact ⟨by first | rfl | (simp; done) | (simp [*]; done), by repeat (first | exact Drawn0.refl _ | apply Drawn0.step)⟩
         ·rw [if_neg c14] at H
          have c14b0 : decide (9223372036854775808 < (IntKind.u64.wrap (x14_1 + 1))) = false := decide_eq_false c14
          clear c14
          by_cases c15 : (IntKind.u64.wrap (x14_1 + 1)) > 0
          ·rw [if_pos c15] at H
           have c15b0 : decide (0 < (IntKind.u64.wrap (x14_1 + 1))) = true := decide_eq_true c15
           clear c15
           simp only [Option.some.injEq, Prod.mk.injEq] at H
           obtain ⟨rfl, rfl⟩ := H
           go_wp2
           go_ret2
           exact ⟨by first | rfl | (simp; done) | (simp [*]; done), by repeat (first | exact Drawn0.refl _ | apply Drawn0.step)⟩
          ·rw [if_neg c15] at H
           have c15b0 : decide (0 < (IntKind.u64.wrap (x14_1 + 1))) = false := decide_eq_false c15
           clear c15
           simp only [Option.some.injEq, Prod.mk.injEq] at H
           obtain ⟨rfl, rfl⟩ := H
           go_wp2
           go_ret2
           exact ⟨by first | rfl | (simp; done) | (simp [*]; done), by repeat (first | exact Drawn0.refl _ | apply Drawn0.step)⟩
       ·rw [if_neg c12] at H
        have c12b0 : ((IntKind.u64.wrap (x14_1 + 1)) == 0) = false := beq_eq_false_iff_ne.mpr c12
        have c12b1 : ((IntKind.u64.wrap (x14_1 + 1)) != 0) = true := bne_iff_ne.mpr c12
        by_cases c16 : x13_1 > 0
        ·rw [if_pos c16] at H
         have c16b0 : decide (0 < x13_1) = true := decide_eq_true c16
         clear c16
         simp only [Option.some.injEq, Prod.mk.injEq] at H
         obtain ⟨rfl, rfl⟩ := H
         go_wp2
         go_ret2
         exact ⟨by first | rfl | (simp; done) | (simp [*]; done), by repeat (first | exact Drawn0.refl _ | apply Drawn0.step)⟩
        ·rw [if_neg c16] at H
         have c16b0 : decide (0 < x13_1) = false := decide_eq_false c16
         clear c16
         by_cases c17 : (IntKind.u64.wrap (x14_1 + 1)) > 9223372036854775808
         ·rw [if_pos c17] at H
          have c17b0 : decide (9223372036854775808 < (IntKind.u64.wrap (x14_1 + 1))) = true := decide_eq_true c17
          clear c17
          simp only [Option.some.injEq, Prod.mk.injEq] at H
          obtain ⟨rfl, rfl⟩ := H
          go_wp2
          go_ret2
          exact ⟨by first | rfl | (simp; done) | (simp [*]; done), by repeat (first | exact Drawn0.refl _ | apply Drawn0.step)⟩
         ·rw [if_neg c17] at H
          have c17b0 : decide (9223372036854775808 < (IntKind.u64.wrap (x14_1 + 1))) = false := decide_eq_false c17
          clear c17
          by_cases c18 : (IntKind.u64.wrap (x14_1 + 1)) > 0
          ·rw [if_pos c18] at H
           have c18b0 : decide (0 < (IntKind.u64.wrap (x14_1 + 1))) = true := decide_eq_true c18
           clear c18
           simp only [Option.some.injEq, Prod.mk.injEq] at H
           obtain ⟨rfl, rfl⟩ := H
           go_wp2
           go_ret2
           exact ⟨by first | rfl | (simp; done) | (simp [*]; done), by repeat (first | exact Drawn0.refl _ | apply Drawn0.step)⟩
          ·rw [if_neg c18] at H
           have c18b0 : decide (0 < (IntKind.u64.wrap (x14_1 + 1))) = false := decide_eq_false c18
           clear c18
           simp only [Option.some.injEq, Prod.mk.injEq] at H
           obtain ⟨rfl, rfl⟩ := H
           go_wp2
           go_ret2
           exact ⟨by first | rfl | (simp; done) | (simp [*]; done), by repeat (first | exact Drawn0.refl _ | apply Drawn0.step)⟩
      ·rw [if_neg c11] at H
       have c11b0 : decide (0 < x12_1) = false := decide_eq_false c11
       clear c11
       by_cases c19 : x13_1 > 0
       ·rw [if_pos c19] at H
        have c19b0 : decide (0 < x13_1) = true := decide_eq_true c19
        clear c19
        simp only [Option.some.injEq, Prod.mk.injEq] at H
        obtain ⟨rfl, rfl⟩ := H
        go_wp2
        go_ret2
        exact ⟨by first | rfl | (simp; done) | (simp [*]; done), by repeat (first | exact Drawn0.refl _ | apply Drawn0.step)⟩
       ·rw [if_neg c19] at H
        have c19b0 : decide (0 < x13_1) = false := decide_eq_false c19
        clear c19
        by_cases c20 : x14_1 > 9223372036854775808
        ·rw [if_pos c20] at H
         have c20b0 : decide (9223372036854775808 < x14_1) = true := decide_eq_true c20
         clear c20
         simp only [Option.some.injEq, Prod.mk.injEq] at H
         obtain ⟨rfl, rfl⟩ := H
         go_wp2
         go_ret2
         exact ⟨by first | rfl | (simp; done) | (simp [*]; done), by repeat (first | exact Drawn0.refl _ | apply Drawn0.step)⟩
        ·rw [if_neg c20] at H
         have c20b0 : decide (9223372036854775808 < x14_1) = false := decide_eq_false c20
         clear c20
         by_cases c21 : x14_1 > 0
         ·rw [if_pos c21] at H
          have c21b0 : decide (0 < x14_1) = true := decide_eq_true c21
          clear c21
          simp only [Option.some.injEq, Prod.mk.injEq] at H
          obtain ⟨rfl, rfl⟩ := H
          go_wp2
          go_ret2
          exact ⟨by first | rfl | (simp; done) | (simp [*]; done), by repeat (first | exact Drawn0.refl _ | apply Drawn0.step)⟩
         ·rw [if_neg c21] at H
          have c21b0 : decide (0 < x14_1) = false := decide_eq_false c21
          clear c21
          simp only [Option.some.injEq, Prod.mk.injEq] at H
          obtain ⟨rfl, rfl⟩ := H
          go_wp2
          go_ret2
          exact ⟨by first | rfl | (simp; done) | (simp [*]; done), by repeat (first | exact Drawn0.refl _ | apply Drawn0.step)⟩
     ·rw [if_neg c10] at H
      have c10b0 : ((decide (a0 < 0)) != (decide (a1 < 0))) = false := by simpa using c10
      (try (have c10b1 : decide ((decide (a0 < 0)) = (decide (a1 < 0))) = true := by simpa using c10))
      (try (have c10b2 : ((decide (a0 < 0)) == (decide (a1 < 0))) = true := by simpa using c10))
      clear c10
      by_cases c22 : x13_1 > 0
      ·rw [if_pos c22] at H
       have c22b0 : decide (0 < x13_1) = true := decide_eq_true c22
       clear c22
       simp only [Option.some.injEq, Prod.mk.injEq] at H
       obtain ⟨rfl, rfl⟩ := H
       go_wp2
       go_ret2
       exact ⟨by first | rfl | (simp; done) | (simp [*]; done), by repeat (first | exact Drawn0.refl _ | apply Drawn0.step)⟩
      ·rw [if_neg c22] at H
       have c22b0 : decide (0 < x13_1) = false := decide_eq_false c22
       clear c22
       by_cases c23 : x14_1 > 9223372036854775808
       ·rw [if_pos c23] at H
        have c23b0 : decide (9223372036854775808 < x14_1) = true := decide_eq_true c23
        clear c23
        simp only [Option.some.injEq, Prod.mk.injEq] at H
        obtain ⟨rfl, rfl⟩ := H
        go_wp2
        go_ret2
        exact ⟨by first | rfl | (simp; done) | (simp [*]; done), by repeat (first | exact Drawn0.refl _ | apply Drawn0.step)⟩
       ·rw [if_neg c23] at H
        have c23b0 : decide (9223372036854775808 < x14_1) = false := decide_eq_false c23
        clear c23
        by_cases c24 : x14_1 > 9223372036854775807
        ·rw [if_pos c24] at H
         have c24b0 : decide (9223372036854775807 < x14_1) = true := decide_eq_true c24
         clear c24
         simp only [Option.some.injEq, Prod.mk.injEq] at H
         obtain ⟨rfl, rfl⟩ := H
         go_wp2
         go_ret2
         exact ⟨by first | rfl | (simp; done) | (simp [*]; done), by repeat (first | exact Drawn0.refl _ | apply Drawn0.step)⟩
        ·rw [if_neg c24] at H
         have c24b0 : decide (9223372036854775807 < x14_1) = false := decide_eq_false c24
         clear c24
         simp only [Option.some.injEq, Prod.mk.injEq] at H
         obtain ⟨rfl, rfl⟩ := H
         go_wp2
         go_ret2
         exact ⟨by first | rfl | (simp; done) | (simp [*]; done), by repeat (first | exact Drawn0.refl _ | apply Drawn0.step)⟩

end Go.Proofs.Ytbjgcfbmifpepaa.PAll
