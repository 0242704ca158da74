-- Written by a program of this session (wip/tools), over the words that print.sh lays.
import Derived.Test.YtbjgcfbmifpepaaPAllx0
import Derived.Test.YtbjgcfbmifpepaaPAllx1
import Derived.Test.YtbjgcfbmifpepaaPAllx3
import Derived.Test.YtbjgcfbmifpepaaPAllx4
import Derived.Test.YtbjgcfbmifpepaaPAllx5
import Derived.Test.YtbjgcfbmifpepaaPAllx6
import Derived.Test.YtbjgcfbmifpepaaPAllx12
import Derived.Test.YtbjgcfbmifpepaaPAllx13
namespace Go.Proofs.Ytbjgcfbmifpepaa.PAll
open Go.RowKit Go.Proofs.YtbjgcfbmifpepaaW.PrintWords Go.Proofs.YtbjgcfbmifpepaaW.PrintLast Go.Proofs.YtbjgcfbmifpepaaW.PrintMore
attribute [local go_sem] max2_int min2_int max_two min_two max_three min_three max_four min_four   -- for this text's walks alone
set_option linter.unusedVariables false
set_option linter.unusedSimpArgs false
attribute [local irreducible] Calls

/-! ### mapmakerlaw01_lives: function 13 -/
def mapmakerlaw01_lives.f (k : Nat)  : Option (Bool) := (num_MulDiv.f k (-7) 3 2).bind fun bt116 => ((num_MulDiv.f k 4611686018427387904 4 8).bind fun bt118 => ((num_Add.f 2 3).bind fun bt120 => ((num_FloorDiv.f (-7) 2).bind fun t122 => (if t122 = (-4) then ((num_RoundDiv.f k (-7) 2).bind fun t123 => (if t123 = (-3) then ((num_RoundDiv.f k 7 2).bind fun t124 => (if t124 = 4 then ((num_Sqrt.f k 24).bind fun t125 => (if t125 = 4 then (if bt116.1 = (-11) then (if bt116.2 = true then (if bt118.1 = 2305843009213693952 then (if bt118.2 = true then (if bt120.1 = 5 then (if bt120.2 = true then ((num_Clamp.f 5 0 3).bind fun t126 => (if t126 = 3 then ((num_Clamp.f 5 7 3).bind fun t127 => (if t127 = 7 then ((num_CmpMul.f k 2 3 1 7).bind fun t128 => (some (t128 == (-1)))) else (none))) else (none))) else (none)) else (none)) else (none)) else (none)) else (none)) else (none)) else (none))) else (none))) else (none))) else (none)))))
theorem mapmakerlaw01_lives.mono : ∀ k, LeO (mapmakerlaw01_lives.f k ) (mapmakerlaw01_lives.f (k + 1) ) := by
 intro  k
 unfold mapmakerlaw01_lives.f
 repeat' first
   | (with_reducible exact num_CmpMul.mono _ _ _ _ _)
   | (with_reducible exact num_MulDiv.mono _ _ _ _)
   | (with_reducible exact num_RoundDiv.mono _ _ _)
   | (with_reducible exact num_Sqrt.mono _ _)
   | (with_reducible exact LeO.refl _)
   | (with_reducible exact LeO.none _)
   | (with_reducible refine LeO.ite ?_ ?_)
   | (with_reducible refine LeO.bind ?_ (fun _ => ?_))
   | exact num_CmpMul.mono _ _ _ _ _
   | exact num_MulDiv.mono _ _ _ _
   | exact num_RoundDiv.mono _ _ _
   | exact num_Sqrt.mono _ _
   | exact LeO.none _
   | refine LeO.ite ?_ ?_
   | refine LeO.bind ?_ (fun _ => ?_)
set_option maxHeartbeats 8000000 in
set_option maxRecDepth 100000 in
theorem mapmakerlaw01_lives.calls (k : Nat)  (r : Bool) (w : World) (h : mapmakerlaw01_lives.f k  = some r) :
  Calls Try.prog 13 #[] w fun e w' => e = .returned (.bool r) ∧ Below w.heap.size w w' := by
 have HB := Aside0.mk (Below.refl w.heap.size w)
 have H : ((num_MulDiv.f k (-7) 3 2).bind fun bt116 => ((num_MulDiv.f k 4611686018427387904 4 8).bind fun bt118 => ((num_Add.f 2 3).bind fun bt120 => ((num_FloorDiv.f (-7) 2).bind fun t122 => (if t122 = (-4) then ((num_RoundDiv.f k (-7) 2).bind fun t123 => (if t123 = (-3) then ((num_RoundDiv.f k 7 2).bind fun t124 => (if t124 = 4 then ((num_Sqrt.f k 24).bind fun t125 => (if t125 = 4 then (if bt116.1 = (-11) then (if bt116.2 = true then (if bt118.1 = 2305843009213693952 then (if bt118.2 = true then (if bt120.1 = 5 then (if bt120.2 = true then ((num_Clamp.f 5 0 3).bind fun t126 => (if t126 = 3 then ((num_Clamp.f 5 7 3).bind fun t127 => (if t127 = 7 then ((num_CmpMul.f k 2 3 1 7).bind fun t128 => (some (t128 == (-1)))) else (none))) else (none))) else (none)) else (none)) else (none)) else (none)) else (none)) else (none)) else (none))) else (none))) else (none))) else (none)))))) = some r := h
 clear h
 replace H := Option.bind_eq_some_iff.mp H
 obtain ⟨⟨t116, t117⟩, A10, H⟩ := H
 replace H : ((num_MulDiv.f k 4611686018427387904 4 8).bind fun bt118 => ((num_Add.f 2 3).bind fun bt120 => ((num_FloorDiv.f (-7) 2).bind fun t122 => (if t122 = (-4) then ((num_RoundDiv.f k (-7) 2).bind fun t123 => (if t123 = (-3) then ((num_RoundDiv.f k 7 2).bind fun t124 => (if t124 = 4 then ((num_Sqrt.f k 24).bind fun t125 => (if t125 = 4 then (if t116 = (-11) then (if t117 = true then (if bt118.1 = 2305843009213693952 then (if bt118.2 = true then (if bt120.1 = 5 then (if bt120.2 = true then ((num_Clamp.f 5 0 3).bind fun t126 => (if t126 = 3 then ((num_Clamp.f 5 7 3).bind fun t127 => (if t127 = 7 then ((num_CmpMul.f k 2 3 1 7).bind fun t128 => (some (t128 == (-1)))) else (none))) else (none))) else (none)) else (none)) else (none)) else (none)) else (none)) else (none)) else (none))) else (none))) else (none))) else (none))))) = some r := H
 have A1 := Aside0.mk A10
 clear A10
 replace H := Option.bind_eq_some_iff.mp H
 obtain ⟨⟨t118, t119⟩, A20, H⟩ := H
 replace H : ((num_Add.f 2 3).bind fun bt120 => ((num_FloorDiv.f (-7) 2).bind fun t122 => (if t122 = (-4) then ((num_RoundDiv.f k (-7) 2).bind fun t123 => (if t123 = (-3) then ((num_RoundDiv.f k 7 2).bind fun t124 => (if t124 = 4 then ((num_Sqrt.f k 24).bind fun t125 => (if t125 = 4 then (if t116 = (-11) then (if t117 = true then (if t118 = 2305843009213693952 then (if t119 = true then (if bt120.1 = 5 then (if bt120.2 = true then ((num_Clamp.f 5 0 3).bind fun t126 => (if t126 = 3 then ((num_Clamp.f 5 7 3).bind fun t127 => (if t127 = 7 then ((num_CmpMul.f k 2 3 1 7).bind fun t128 => (some (t128 == (-1)))) else (none))) else (none))) else (none)) else (none)) else (none)) else (none)) else (none)) else (none)) else (none))) else (none))) else (none))) else (none)))) = some r := H
 have A2 := Aside0.mk A20
 clear A20
 replace H := Option.bind_eq_some_iff.mp H
 obtain ⟨⟨t120, t121⟩, A30, H⟩ := H
 replace H : ((num_FloorDiv.f (-7) 2).bind fun t122 => (if t122 = (-4) then ((num_RoundDiv.f k (-7) 2).bind fun t123 => (if t123 = (-3) then ((num_RoundDiv.f k 7 2).bind fun t124 => (if t124 = 4 then ((num_Sqrt.f k 24).bind fun t125 => (if t125 = 4 then (if t116 = (-11) then (if t117 = true then (if t118 = 2305843009213693952 then (if t119 = true then (if t120 = 5 then (if t121 = true then ((num_Clamp.f 5 0 3).bind fun t126 => (if t126 = 3 then ((num_Clamp.f 5 7 3).bind fun t127 => (if t127 = 7 then ((num_CmpMul.f k 2 3 1 7).bind fun t128 => (some (t128 == (-1)))) else (none))) else (none))) else (none)) else (none)) else (none)) else (none)) else (none)) else (none)) else (none))) else (none))) else (none))) else (none))) = some r := H
 have A3 := Aside0.mk A30
 clear A30
 replace H := Option.bind_eq_some_iff.mp H
 obtain ⟨t122, A40, H⟩ := H
 replace H : (if t122 = (-4) then ((num_RoundDiv.f k (-7) 2).bind fun t123 => (if t123 = (-3) then ((num_RoundDiv.f k 7 2).bind fun t124 => (if t124 = 4 then ((num_Sqrt.f k 24).bind fun t125 => (if t125 = 4 then (if t116 = (-11) then (if t117 = true then (if t118 = 2305843009213693952 then (if t119 = true then (if t120 = 5 then (if t121 = true then ((num_Clamp.f 5 0 3).bind fun t126 => (if t126 = 3 then ((num_Clamp.f 5 7 3).bind fun t127 => (if t127 = 7 then ((num_CmpMul.f k 2 3 1 7).bind fun t128 => (some (t128 == (-1)))) else (none))) else (none))) else (none)) else (none)) else (none)) else (none)) else (none)) else (none)) else (none))) else (none))) else (none))) else (none)) = some r := H
 have A4 := Aside0.mk A40
 clear A40
 by_cases c5 : t122 = (-4)
 ·rw [if_pos c5] at H
  have c5b0 : (t122 == (-4)) = true := beq_iff_eq.mpr c5
  have c5b1 : (t122 != (-4)) = false := bne_eq_false_iff_eq.mpr c5
  clear c5
  replace H := Option.bind_eq_some_iff.mp H
  obtain ⟨t123, A60, H⟩ := H
  replace H : (if t123 = (-3) then ((num_RoundDiv.f k 7 2).bind fun t124 => (if t124 = 4 then ((num_Sqrt.f k 24).bind fun t125 => (if t125 = 4 then (if t116 = (-11) then (if t117 = true then (if t118 = 2305843009213693952 then (if t119 = true then (if t120 = 5 then (if t121 = true then ((num_Clamp.f 5 0 3).bind fun t126 => (if t126 = 3 then ((num_Clamp.f 5 7 3).bind fun t127 => (if t127 = 7 then ((num_CmpMul.f k 2 3 1 7).bind fun t128 => (some (t128 == (-1)))) else (none))) else (none))) else (none)) else (none)) else (none)) else (none)) else (none)) else (none)) else (none))) else (none))) else (none)) = some r := H
  have A6 := Aside0.mk A60
  clear A60
  by_cases c7 : t123 = (-3)
  ·rw [if_pos c7] at H
   have c7b0 : (t123 == (-3)) = true := beq_iff_eq.mpr c7
   have c7b1 : (t123 != (-3)) = false := bne_eq_false_iff_eq.mpr c7
   clear c7
   replace H := Option.bind_eq_some_iff.mp H
   obtain ⟨t124, A80, H⟩ := H
   replace H : (if t124 = 4 then ((num_Sqrt.f k 24).bind fun t125 => (if t125 = 4 then (if t116 = (-11) then (if t117 = true then (if t118 = 2305843009213693952 then (if t119 = true then (if t120 = 5 then (if t121 = true then ((num_Clamp.f 5 0 3).bind fun t126 => (if t126 = 3 then ((num_Clamp.f 5 7 3).bind fun t127 => (if t127 = 7 then ((num_CmpMul.f k 2 3 1 7).bind fun t128 => (some (t128 == (-1)))) else (none))) else (none))) else (none)) else (none)) else (none)) else (none)) else (none)) else (none)) else (none))) else (none)) = some r := H
   have A8 := Aside0.mk A80
   clear A80
   by_cases c9 : t124 = 4
   ·rw [if_pos c9] at H
    have c9b0 : (t124 == 4) = true := beq_iff_eq.mpr c9
    have c9b1 : (t124 != 4) = false := bne_eq_false_iff_eq.mpr c9
    clear c9
    replace H := Option.bind_eq_some_iff.mp H
    obtain ⟨t125, A100, H⟩ := H
    replace H : (if t125 = 4 then (if t116 = (-11) then (if t117 = true then (if t118 = 2305843009213693952 then (if t119 = true then (if t120 = 5 then (if t121 = true then ((num_Clamp.f 5 0 3).bind fun t126 => (if t126 = 3 then ((num_Clamp.f 5 7 3).bind fun t127 => (if t127 = 7 then ((num_CmpMul.f k 2 3 1 7).bind fun t128 => (some (t128 == (-1)))) else (none))) else (none))) else (none)) else (none)) else (none)) else (none)) else (none)) else (none)) else (none)) = some r := H
    have A10 := Aside0.mk A100
    clear A100
    by_cases c11 : t125 = 4
    ·rw [if_pos c11] at H
     have c11b0 : (t125 == 4) = true := beq_iff_eq.mpr c11
     have c11b1 : (t125 != 4) = false := bne_eq_false_iff_eq.mpr c11
     clear c11
     by_cases c12 : t116 = (-11)
     ·rw [if_pos c12] at H
      have c12b0 : (t116 == (-11)) = true := beq_iff_eq.mpr c12
      have c12b1 : (t116 != (-11)) = false := bne_eq_false_iff_eq.mpr c12
      clear c12
      by_cases c13 : t117 = true
      ·subst c13
       have H1 : (if t118 = 2305843009213693952 then (if t119 = true then (if t120 = 5 then (if t121 = true then ((num_Clamp.f 5 0 3).bind fun t126 => (if t126 = 3 then ((num_Clamp.f 5 7 3).bind fun t127 => (if t127 = 7 then ((num_CmpMul.f k 2 3 1 7).bind fun t128 => (some (t128 == (-1)))) else (none))) else (none))) else (none)) else (none)) else (none)) else (none)) = some r := by rw [if_pos rfl] at H; exact H
       clear H
       have H := H1
       clear H1
       by_cases c14 : t118 = 2305843009213693952
       ·rw [if_pos c14] at H
        have c14b0 : (t118 == 2305843009213693952) = true := beq_iff_eq.mpr c14
        have c14b1 : (t118 != 2305843009213693952) = false := bne_eq_false_iff_eq.mpr c14
        clear c14
        by_cases c15 : t119 = true
        ·subst c15
         have H1 : (if t120 = 5 then (if t121 = true then ((num_Clamp.f 5 0 3).bind fun t126 => (if t126 = 3 then ((num_Clamp.f 5 7 3).bind fun t127 => (if t127 = 7 then ((num_CmpMul.f k 2 3 1 7).bind fun t128 => (some (t128 == (-1)))) else (none))) else (none))) else (none)) else (none)) = some r := by rw [if_pos rfl] at H; exact H
         clear H
         have H := H1
         clear H1
         by_cases c16 : t120 = 5
         ·rw [if_pos c16] at H
          have c16b0 : (t120 == 5) = true := beq_iff_eq.mpr c16
          have c16b1 : (t120 != 5) = false := bne_eq_false_iff_eq.mpr c16
          clear c16
          by_cases c17 : t121 = true
          ·subst c17
           have H1 : ((num_Clamp.f 5 0 3).bind fun t126 => (if t126 = 3 then ((num_Clamp.f 5 7 3).bind fun t127 => (if t127 = 7 then ((num_CmpMul.f k 2 3 1 7).bind fun t128 => (some (t128 == (-1)))) else (none))) else (none))) = some r := by rw [if_pos rfl] at H; exact H
           clear H
           have H := H1
           clear H1
           replace H := Option.bind_eq_some_iff.mp H
           obtain ⟨t126, A180, H⟩ := H
           replace H : (if t126 = 3 then ((num_Clamp.f 5 7 3).bind fun t127 => (if t127 = 7 then ((num_CmpMul.f k 2 3 1 7).bind fun t128 => (some (t128 == (-1)))) else (none))) else (none)) = some r := H
           have A18 := Aside0.mk A180
           clear A180
           by_cases c19 : t126 = 3
           ·rw [if_pos c19] at H
            have c19b0 : (t126 == 3) = true := beq_iff_eq.mpr c19
            have c19b1 : (t126 != 3) = false := bne_eq_false_iff_eq.mpr c19
            clear c19
            replace H := Option.bind_eq_some_iff.mp H
            obtain ⟨t127, A200, H⟩ := H
            replace H : (if t127 = 7 then ((num_CmpMul.f k 2 3 1 7).bind fun t128 => (some (t128 == (-1)))) else (none)) = some r := H
            have A20 := Aside0.mk A200
            clear A200
            by_cases c21 : t127 = 7
            ·rw [if_pos c21] at H
             have c21b0 : (t127 == 7) = true := beq_iff_eq.mpr c21
             have c21b1 : (t127 != 7) = false := bne_eq_false_iff_eq.mpr c21
             clear c21
             replace H := Option.bind_eq_some_iff.mp H
             obtain ⟨t128, A220, H⟩ := H
             replace H : (some (t128 == (-1))) = some r := H
             have A22 := Aside0.mk A220
             clear A220
             obtain rfl := Option.some.inj H
             go_enter Try.func13, Try.ntmps13
             go_wp2_with (first | ((with_reducible refine gate_callee (f := 22) rfl ?_); refine goesL_ (some 8) rfl rfl Try.func22 (by kernel_rfl) rfl #[.int .i64 (-7), .int .i64 3, .int .i64 2] rfl (by (try simp only [List.map_toArray, List.map_cons, List.map_nil]); first | done | rfl | (simp only [List.length_drop, List.length_take]; rfl)) ?_; (with_reducible refine (num_MulDiv.calls k (-7) 3 2 t116 true _ A1.out).mono ?_); rintro e w23 ⟨rfl, hb⟩; refine ⟨_, rfl, ?_⟩; have n0_ := Aside0.mk (below_step (by repeat (first | (with_reducible first | exact HB.out | apply below_alloc | apply pw_below_drewN | apply below_drew1) | exact HB.out)) hb); clear HB; have HB := n0_; clear n0_; (try clear hb); (try clear hb2); (try clear hk); (try clear hi)) | ((with_reducible refine gate_callee (f := 22) rfl ?_); refine goesL_ (some 12) rfl rfl Try.func22 (by kernel_rfl) rfl #[.int .i64 4611686018427387904, .int .i64 4, .int .i64 8] rfl (by (try simp only [List.map_toArray, List.map_cons, List.map_nil]); first | done | rfl | (simp only [List.length_drop, List.length_take]; rfl)) ?_; (with_reducible refine (num_MulDiv.calls k 4611686018427387904 4 8 t118 true _ A2.out).mono ?_); rintro e w24 ⟨rfl, hb⟩; refine ⟨_, rfl, ?_⟩; have n0_ := Aside0.mk (below_step (by repeat (first | (with_reducible first | exact HB.out | apply below_alloc | apply pw_below_drewN | apply below_drew1) | exact HB.out)) hb); clear HB; have HB := n0_; clear n0_; (try clear hb); (try clear hb2); (try clear hk); (try clear hi)) | ((with_reducible refine gate_callee (f := 20) rfl ?_); refine goesL_ (some 16) rfl rfl Try.func20 (by kernel_rfl) rfl #[.int .i64 2, .int .i64 3] rfl (by (try simp only [List.map_toArray, List.map_cons, List.map_nil]); first | done | rfl | (simp only [List.length_drop, List.length_take]; rfl)) ?_; (with_reducible refine (num_Add.calls 2 3 t120 true _ A3.out).mono ?_); rintro e w' ⟨rfl, ⟨nd, rfl⟩⟩; refine ⟨_, rfl, ?_⟩) | ((with_reducible refine gate_callee (f := 14) rfl ?_); refine goesL_ (some 19) rfl rfl Try.func14 (by kernel_rfl) rfl #[.int .i64 (-7), .int .i64 2] rfl (by (try simp only [List.map_toArray, List.map_cons, List.map_nil]); first | done | rfl | (simp only [List.length_drop, List.length_take]; rfl)) ?_; (with_reducible refine (num_FloorDiv.calls (-7) 2 t122 _ A4.out).mono ?_); rintro e w' ⟨rfl, ⟨nd, rfl⟩⟩; refine ⟨_, rfl, ?_⟩) | (go_at_call 16; (with_reducible refine (num_RoundDiv.calls k (-7) 2 t123 _ A6.out).mono ?_); rintro e w' ⟨rfl, ⟨nd, rfl⟩⟩) | (go_at_call 16; (with_reducible refine (num_RoundDiv.calls k 7 2 t124 _ A8.out).mono ?_); rintro e w' ⟨rfl, ⟨nd, rfl⟩⟩) | (go_at_call 18; (with_reducible refine (num_Sqrt.calls k 24 t125 _ A10.out).mono ?_); rintro e w' ⟨rfl, ⟨nd, rfl⟩⟩) | (go_at_call 11; (with_reducible refine (num_Clamp.calls 5 0 3 t126 _ A18.out).mono ?_); rintro e w' ⟨rfl, ⟨nd, rfl⟩⟩) | (go_at_call 11; (with_reducible refine (num_Clamp.calls 5 7 3 t127 _ A20.out).mono ?_); rintro e w' ⟨rfl, ⟨nd, rfl⟩⟩) | (go_at_call 24; (with_reducible refine (num_CmpMul.calls k 2 3 1 7 t128 _ A22.out).mono ?_); rintro e w25 ⟨rfl, hb⟩; have n0_ := Aside0.mk (below_step (by repeat (first | (with_reducible first | exact HB.out | apply below_alloc | apply pw_below_drewN | apply below_drew1) | exact HB.out)) hb); clear HB; have HB := n0_; clear n0_; (try clear hb); (try clear hb2); (try clear hk); (try clear hi)))
             go_ret
             exact ⟨by first | rfl | (simp [errW_none, errW_some] <;> rfl) | (simp [*, errW_none, errW_some] <;> rfl), by repeat (first | (with_reducible first | exact HB.out | apply below_alloc | apply pw_below_drewN | apply below_drew1) | exact HB.out)⟩
            ·rw [if_neg c21] at H
             exact absurd H (by simp)
           ·rw [if_neg c19] at H
            exact absurd H (by simp)
          ·replace c17 := Bool.eq_false_iff.mpr c17
           subst c17
           have H1 : (none) = some r := by rw [if_neg (show ¬ (false = true) by decide)] at H; exact H
           clear H
           have H := H1
           clear H1
           exact absurd H (by simp)
         ·rw [if_neg c16] at H
          exact absurd H (by simp)
        ·replace c15 := Bool.eq_false_iff.mpr c15
         subst c15
         have H1 : (none) = some r := by rw [if_neg (show ¬ (false = true) by decide)] at H; exact H
         clear H
         have H := H1
         clear H1
         exact absurd H (by simp)
       ·rw [if_neg c14] at H
        exact absurd H (by simp)
      ·replace c13 := Bool.eq_false_iff.mpr c13
       subst c13
       have H1 : (none) = some r := by rw [if_neg (show ¬ (false = true) by decide)] at H; exact H
       clear H
       have H := H1
       clear H1
       exact absurd H (by simp)
     ·rw [if_neg c12] at H
      exact absurd H (by simp)
    ·rw [if_neg c11] at H
     exact absurd H (by simp)
   ·rw [if_neg c9] at H
    exact absurd H (by simp)
  ·rw [if_neg c7] at H
   exact absurd H (by simp)
 ·rw [if_neg c5] at H
  exact absurd H (by simp)

end Go.Proofs.Ytbjgcfbmifpepaa.PAll
