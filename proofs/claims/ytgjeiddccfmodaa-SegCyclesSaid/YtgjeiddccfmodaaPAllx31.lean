-- Written by a program of this session (wip/tools), over the words that print.sh lays. (slim)
import Derived.Test.YtgjeiddccfmodaaPAllx0
import Derived.Test.YtgjeiddccfmodaaPAllx29
import Derived.Test.YtgjeiddccfmodaaPAllx30
namespace Go.Proofs.Ytgjeiddccfmodaa.PAll
open Go.RowKit Go.Proofs.YtgjeiddccfmodaaW.PrintWords Go.Proofs.YtgjeiddccfmodaaW.PrintLast Go.Proofs.YtgjeiddccfmodaaW.PrintMore
attribute [local go_sem] max2_int min2_int max_two min_two max_three min_three max_four min_four   -- for this text's walks alone
set_option linter.unusedVariables false
set_option linter.unusedSimpArgs false
attribute [local irreducible] Calls

/-! ### mapmakerref01_CmpMul: function 36 -/
def mapmakerref01_CmpMul.j0 : Nat → Int → Int → Int → Int → Int → Bool → Option (Int)
 | 0, _, _, _, _, _, _ => none
 | k + 1, x9, x11, x12, x13, x14, x50 => if x50 = true then (some 0) else (if x11 < x13 then (some (wrap64 (-x9))) else (if x11 = x13 then (if x12 < x14 then (some (wrap64 (-x9))) else (some x9)) else (some x9)))
def mapmakerref01_CmpMul.f (k : Nat) (a0 : Int) (a1 : Int) (a2 : Int) (a3 : Int) : Option (Int) := (mapmakerref01_sign.f k a0 a1).bind fun t284 => ((mapmakerref01_sign.f k a2 a3).bind fun t285 => (if t284 < t285 then (some (-1)) else (if t284 > t285 then (some 1) else ((mapmakerref01_Mag.f a0).bind fun t286 => ((mapmakerref01_Mag.f a1).bind fun t287 => ((mapmakerref01_Times.f t286 t287).bind fun bt288 => ((mapmakerref01_Mag.f a2).bind fun t290 => ((mapmakerref01_Mag.f a3).bind fun t291 => ((mapmakerref01_Times.f t290 t291).bind fun bt292 => (if bt288.1 = bt292.1 then (mapmakerref01_CmpMul.j0 k t284 bt288.1 bt288.2 bt292.1 bt292.2 (bt288.2 == bt292.2)) else (mapmakerref01_CmpMul.j0 k t284 bt288.1 bt288.2 bt292.1 bt292.2 false)))))))))))
theorem mapmakerref01_CmpMul.mono_l : ∀ k, (∀ y0 y1 y2 y3 y4 y5, LeO (mapmakerref01_CmpMul.j0 k y0 y1 y2 y3 y4 y5) (mapmakerref01_CmpMul.j0 (k + 1) y0 y1 y2 y3 y4 y5))
 | 0 => fun _ _ _ _ _ _ r h => by simp [mapmakerref01_CmpMul.j0] at h
 | k + 1 => by
  have ih0 := mapmakerref01_CmpMul.mono_l k
  ·intro y0 y1 y2 y3 y4 y5
   unfold mapmakerref01_CmpMul.j0
   repeat' first
   | (with_reducible exact ih0 _ _ _ _ _ _)
   | (with_reducible exact mapmakerref01_sign.mono _ _ _)
   | (with_reducible exact LeO.refl _)
   | (with_reducible exact LeO.none _)
   | (with_reducible refine LeO.ite ?_ ?_)
   | (with_reducible refine LeO.bind ?_ (fun _ => ?_))
   | exact ih0 _ _ _ _ _ _
   | exact mapmakerref01_sign.mono _ _ _
   | exact LeO.none _
   | refine LeO.ite ?_ ?_
   | refine LeO.bind ?_ (fun _ => ?_)
theorem mapmakerref01_CmpMul.mono : ∀ a0 a1 a2 a3 k, LeO (mapmakerref01_CmpMul.f k a0 a1 a2 a3) (mapmakerref01_CmpMul.f (k + 1) a0 a1 a2 a3) := by
 intro a0 a1 a2 a3 k
 have ih0 := mapmakerref01_CmpMul.mono_l k
 unfold mapmakerref01_CmpMul.f
 repeat' first
   | (with_reducible exact ih0 _ _ _ _ _ _)
   | (with_reducible exact mapmakerref01_sign.mono _ _ _)
   | (with_reducible exact LeO.refl _)
   | (with_reducible exact LeO.none _)
   | (with_reducible refine LeO.ite ?_ ?_)
   | (with_reducible refine LeO.bind ?_ (fun _ => ?_))
   | exact ih0 _ _ _ _ _ _
   | exact mapmakerref01_sign.mono _ _ _
   | exact LeO.none _
   | refine LeO.ite ?_ ?_
   | refine LeO.bind ?_ (fun _ => ?_)
set_option maxHeartbeats 8000000 in
set_option maxRecDepth 100000 in
theorem mapmakerref01_CmpMul.calls (k : Nat) (a0 : Int) (a1 : Int) (a2 : Int) (a3 : Int) (r : Int) (w : World) (h : mapmakerref01_CmpMul.f k a0 a1 a2 a3 = some r) :
  Calls Try.prog 36 #[.int .i64 a0, .int .i64 a1, .int .i64 a2, .int .i64 a3] w fun e w' => e = .returned (.int .i64 r) ∧ Drawn0 w w' := by
 have H : ((mapmakerref01_sign.f k a0 a1).bind fun t284 => ((mapmakerref01_sign.f k a2 a3).bind fun t285 => (if t284 < t285 then (some (-1)) else (if t284 > t285 then (some 1) else ((mapmakerref01_Mag.f a0).bind fun t286 => ((mapmakerref01_Mag.f a1).bind fun t287 => ((mapmakerref01_Times.f t286 t287).bind fun bt288 => ((mapmakerref01_Mag.f a2).bind fun t290 => ((mapmakerref01_Mag.f a3).bind fun t291 => ((mapmakerref01_Times.f t290 t291).bind fun bt292 => (if bt288.1 = bt292.1 then (mapmakerref01_CmpMul.j0 k t284 bt288.1 bt288.2 bt292.1 bt292.2 (bt288.2 == bt292.2)) else (mapmakerref01_CmpMul.j0 k t284 bt288.1 bt288.2 bt292.1 bt292.2 false)))))))))))) = some r := h
 clear h
 replace H := Option.bind_eq_some_iff.mp H
 obtain ⟨t284, A50, H⟩ := H
 replace H : ((mapmakerref01_sign.f k a2 a3).bind fun t285 => (if t284 < t285 then (some (-1)) else (if t284 > t285 then (some 1) else ((mapmakerref01_Mag.f a0).bind fun t286 => ((mapmakerref01_Mag.f a1).bind fun t287 => ((mapmakerref01_Times.f t286 t287).bind fun bt288 => ((mapmakerref01_Mag.f a2).bind fun t290 => ((mapmakerref01_Mag.f a3).bind fun t291 => ((mapmakerref01_Times.f t290 t291).bind fun bt292 => (if bt288.1 = bt292.1 then (mapmakerref01_CmpMul.j0 k t284 bt288.1 bt288.2 bt292.1 bt292.2 (bt288.2 == bt292.2)) else (mapmakerref01_CmpMul.j0 k t284 bt288.1 bt288.2 bt292.1 bt292.2 false))))))))))) = some r := H
 have A5 := Aside0.mk A50
 clear A50
 replace H := Option.bind_eq_some_iff.mp H
 obtain ⟨t285, A60, H⟩ := H
 replace H : (if t284 < t285 then (some (-1)) else (if t284 > t285 then (some 1) else ((mapmakerref01_Mag.f a0).bind fun t286 => ((mapmakerref01_Mag.f a1).bind fun t287 => ((mapmakerref01_Times.f t286 t287).bind fun bt288 => ((mapmakerref01_Mag.f a2).bind fun t290 => ((mapmakerref01_Mag.f a3).bind fun t291 => ((mapmakerref01_Times.f t290 t291).bind fun bt292 => (if bt288.1 = bt292.1 then (mapmakerref01_CmpMul.j0 k t284 bt288.1 bt288.2 bt292.1 bt292.2 (bt288.2 == bt292.2)) else (mapmakerref01_CmpMul.j0 k t284 bt288.1 bt288.2 bt292.1 bt292.2 false)))))))))) = some r := H
 have A6 := Aside0.mk A60
 clear A60
 by_cases c7 : t284 < t285
 ·rw [if_pos c7] at H
  have c7b0 : decide (t284 < t285) = true := decide_eq_true c7
  clear c7
  obtain rfl := Option.some.inj H
  go_enter Try.func36, Try.ntmps36
  go_wp2_with (first | ((with_reducible refine gate_callee (f := 41) rfl ?_); refine goesL_ (some 17) rfl rfl Try.func41 (by kernel_rfl) rfl #[.int .i64 a0, .int .i64 a1] rfl (by (try simp only [List.map_toArray, List.map_cons, List.map_nil]); first | done | rfl | (simp only [List.length_drop, List.length_take]; rfl)) ?_; (with_reducible refine (mapmakerref01_sign.calls k a0 a1 t284 _ A5.out).mono ?_); rintro e w' ⟨rfl, ⟨nd, rfl⟩⟩; refine ⟨_, rfl, ?_⟩) | ((with_reducible refine gate_callee (f := 41) rfl ?_); refine goesL_ (some 20) rfl rfl Try.func41 (by kernel_rfl) rfl #[.int .i64 a2, .int .i64 a3] rfl (by (try simp only [List.map_toArray, List.map_cons, List.map_nil]); first | done | rfl | (simp only [List.length_drop, List.length_take]; rfl)) ?_; (with_reducible refine (mapmakerref01_sign.calls k a2 a3 t285 _ A6.out).mono ?_); rintro e w' ⟨rfl, ⟨nd, rfl⟩⟩; refine ⟨_, rfl, ?_⟩))
  go_ret
  exact ⟨by first | rfl | (simp; done) | (simp [*]; done), by repeat (first | exact Drawn0.refl _ | apply Drawn0.step)⟩
 ·rw [if_neg c7] at H
  have c7b0 : decide (t284 < t285) = false := decide_eq_false c7
  clear c7
  by_cases c8 : t284 > t285
  ·rw [if_pos c8] at H
   have c8b0 : decide (t285 < t284) = true := decide_eq_true c8
   clear c8
   obtain rfl := Option.some.inj H
   go_enter Try.func36, Try.ntmps36
   go_wp2_with (first | ((with_reducible refine gate_callee (f := 41) rfl ?_); refine goesL_ (some 17) rfl rfl Try.func41 (by kernel_rfl) rfl #[.int .i64 a0, .int .i64 a1] rfl (by (try simp only [List.map_toArray, List.map_cons, List.map_nil]); first | done | rfl | (simp only [List.length_drop, List.length_take]; rfl)) ?_; (with_reducible refine (mapmakerref01_sign.calls k a0 a1 t284 _ A5.out).mono ?_); rintro e w' ⟨rfl, ⟨nd, rfl⟩⟩; refine ⟨_, rfl, ?_⟩) | ((with_reducible refine gate_callee (f := 41) rfl ?_); refine goesL_ (some 20) rfl rfl Try.func41 (by kernel_rfl) rfl #[.int .i64 a2, .int .i64 a3] rfl (by (try simp only [List.map_toArray, List.map_cons, List.map_nil]); first | done | rfl | (simp only [List.length_drop, List.length_take]; rfl)) ?_; (with_reducible refine (mapmakerref01_sign.calls k a2 a3 t285 _ A6.out).mono ?_); rintro e w' ⟨rfl, ⟨nd, rfl⟩⟩; refine ⟨_, rfl, ?_⟩))
   go_ret
   exact ⟨by first | rfl | (simp; done) | (simp [*]; done), by repeat (first | exact Drawn0.refl _ | apply Drawn0.step)⟩
  ·rw [if_neg c8] at H
   have c8b0 : decide (t285 < t284) = false := decide_eq_false c8
   clear c8
   replace H := Option.bind_eq_some_iff.mp H
   obtain ⟨t286, A90, H⟩ := H
   replace H : ((mapmakerref01_Mag.f a1).bind fun t287 => ((mapmakerref01_Times.f t286 t287).bind fun bt288 => ((mapmakerref01_Mag.f a2).bind fun t290 => ((mapmakerref01_Mag.f a3).bind fun t291 => ((mapmakerref01_Times.f t290 t291).bind fun bt292 => (if bt288.1 = bt292.1 then (mapmakerref01_CmpMul.j0 k t284 bt288.1 bt288.2 bt292.1 bt292.2 (bt288.2 == bt292.2)) else (mapmakerref01_CmpMul.j0 k t284 bt288.1 bt288.2 bt292.1 bt292.2 false))))))) = some r := H
   have A9 := Aside0.mk A90
   clear A90
   replace H := Option.bind_eq_some_iff.mp H
   obtain ⟨t287, A100, H⟩ := H
   replace H : ((mapmakerref01_Times.f t286 t287).bind fun bt288 => ((mapmakerref01_Mag.f a2).bind fun t290 => ((mapmakerref01_Mag.f a3).bind fun t291 => ((mapmakerref01_Times.f t290 t291).bind fun bt292 => (if bt288.1 = bt292.1 then (mapmakerref01_CmpMul.j0 k t284 bt288.1 bt288.2 bt292.1 bt292.2 (bt288.2 == bt292.2)) else (mapmakerref01_CmpMul.j0 k t284 bt288.1 bt288.2 bt292.1 bt292.2 false)))))) = some r := H
   have A10 := Aside0.mk A100
   clear A100
   replace H := Option.bind_eq_some_iff.mp H
   obtain ⟨⟨t288, t289⟩, A110, H⟩ := H
   replace H : ((mapmakerref01_Mag.f a2).bind fun t290 => ((mapmakerref01_Mag.f a3).bind fun t291 => ((mapmakerref01_Times.f t290 t291).bind fun bt292 => (if t288 = bt292.1 then (mapmakerref01_CmpMul.j0 k t284 t288 t289 bt292.1 bt292.2 (t289 == bt292.2)) else (mapmakerref01_CmpMul.j0 k t284 t288 t289 bt292.1 bt292.2 false))))) = some r := H
   have A11 := Aside0.mk A110
   clear A110
   replace H := Option.bind_eq_some_iff.mp H
   obtain ⟨t290, A120, H⟩ := H
   replace H : ((mapmakerref01_Mag.f a3).bind fun t291 => ((mapmakerref01_Times.f t290 t291).bind fun bt292 => (if t288 = bt292.1 then (mapmakerref01_CmpMul.j0 k t284 t288 t289 bt292.1 bt292.2 (t289 == bt292.2)) else (mapmakerref01_CmpMul.j0 k t284 t288 t289 bt292.1 bt292.2 false)))) = some r := H
   have A12 := Aside0.mk A120
   clear A120
   replace H := Option.bind_eq_some_iff.mp H
   obtain ⟨t291, A130, H⟩ := H
   replace H : ((mapmakerref01_Times.f t290 t291).bind fun bt292 => (if t288 = bt292.1 then (mapmakerref01_CmpMul.j0 k t284 t288 t289 bt292.1 bt292.2 (t289 == bt292.2)) else (mapmakerref01_CmpMul.j0 k t284 t288 t289 bt292.1 bt292.2 false))) = some r := H
   have A13 := Aside0.mk A130
   clear A130
   replace H := Option.bind_eq_some_iff.mp H
   obtain ⟨⟨t292, t293⟩, A140, H⟩ := H
   replace H : (if t288 = t292 then (mapmakerref01_CmpMul.j0 k t284 t288 t289 t292 t293 (t289 == t293)) else (mapmakerref01_CmpMul.j0 k t284 t288 t289 t292 t293 false)) = some r := H
   have A14 := Aside0.mk A140
   clear A140
   have HC15 := Aside0.mk H
   clear H
   go_enter Try.func36, Try.ntmps36
   go_upto_region 8 with (first | ((with_reducible refine gate_callee (f := 41) rfl ?_); refine goesL_ (some 17) rfl rfl Try.func41 (by kernel_rfl) rfl #[.int .i64 a0, .int .i64 a1] rfl (by (try simp only [List.map_toArray, List.map_cons, List.map_nil]); first | done | rfl | (simp only [List.length_drop, List.length_take]; rfl)) ?_; (with_reducible refine (mapmakerref01_sign.calls k a0 a1 t284 _ A5.out).mono ?_); rintro e w' ⟨rfl, ⟨nd, rfl⟩⟩; refine ⟨_, rfl, ?_⟩) | ((with_reducible refine gate_callee (f := 41) rfl ?_); refine goesL_ (some 20) rfl rfl Try.func41 (by kernel_rfl) rfl #[.int .i64 a2, .int .i64 a3] rfl (by (try simp only [List.map_toArray, List.map_cons, List.map_nil]); first | done | rfl | (simp only [List.length_drop, List.length_take]; rfl)) ?_; (with_reducible refine (mapmakerref01_sign.calls k a2 a3 t285 _ A6.out).mono ?_); rintro e w' ⟨rfl, ⟨nd, rfl⟩⟩; refine ⟨_, rfl, ?_⟩) | ((with_reducible refine gate_callee (f := 43) rfl ?_); refine goesL_ (some 29) rfl rfl Try.func43 (by kernel_rfl) rfl #[.int .i64 a0] rfl (by (try simp only [List.map_toArray, List.map_cons, List.map_nil]); first | done | rfl | (simp only [List.length_drop, List.length_take]; rfl)) ?_; (with_reducible refine (mapmakerref01_Mag.calls a0 t286 _ A9.out).mono ?_); rintro e w' ⟨rfl, ⟨nd, rfl⟩⟩; refine ⟨_, rfl, ?_⟩) | ((with_reducible refine gate_callee (f := 43) rfl ?_); refine goesL_ (some 31) rfl rfl Try.func43 (by kernel_rfl) rfl #[.int .i64 a1] rfl (by (try simp only [List.map_toArray, List.map_cons, List.map_nil]); first | done | rfl | (simp only [List.length_drop, List.length_take]; rfl)) ?_; (with_reducible refine (mapmakerref01_Mag.calls a1 t287 _ A10.out).mono ?_); rintro e w' ⟨rfl, ⟨nd, rfl⟩⟩; refine ⟨_, rfl, ?_⟩) | ((with_reducible refine gate_callee (f := 42) rfl ?_); refine goesL_ (some 32) rfl rfl Try.func42 (by kernel_rfl) rfl #[.int .u64 t286, .int .u64 t287] rfl (by (try simp only [List.map_toArray, List.map_cons, List.map_nil]); first | done | rfl | (simp only [List.length_drop, List.length_take]; rfl)) ?_; (with_reducible refine (mapmakerref01_Times.calls t286 t287 t288 t289 _ A11.out).mono ?_); rintro e w' ⟨rfl, ⟨nd, rfl⟩⟩; refine ⟨_, rfl, ?_⟩) | ((with_reducible refine gate_callee (f := 43) rfl ?_); refine goesL_ (some 37) rfl rfl Try.func43 (by kernel_rfl) rfl #[.int .i64 a2] rfl (by (try simp only [List.map_toArray, List.map_cons, List.map_nil]); first | done | rfl | (simp only [List.length_drop, List.length_take]; rfl)) ?_; (with_reducible refine (mapmakerref01_Mag.calls a2 t290 _ A12.out).mono ?_); rintro e w' ⟨rfl, ⟨nd, rfl⟩⟩; refine ⟨_, rfl, ?_⟩) | ((with_reducible refine gate_callee (f := 43) rfl ?_); refine goesL_ (some 39) rfl rfl Try.func43 (by kernel_rfl) rfl #[.int .i64 a3] rfl (by (try simp only [List.map_toArray, List.map_cons, List.map_nil]); first | done | rfl | (simp only [List.length_drop, List.length_take]; rfl)) ?_; (with_reducible refine (mapmakerref01_Mag.calls a3 t291 _ A13.out).mono ?_); rintro e w' ⟨rfl, ⟨nd, rfl⟩⟩; refine ⟨_, rfl, ?_⟩) | ((with_reducible refine gate_callee (f := 42) rfl ?_); refine goesL_ (some 40) rfl rfl Try.func42 (by kernel_rfl) rfl #[.int .u64 t290, .int .u64 t291] rfl (by (try simp only [List.map_toArray, List.map_cons, List.map_nil]); first | done | rfl | (simp only [List.length_drop, List.length_take]; rfl)) ?_; (with_reducible refine (mapmakerref01_Times.calls t290 t291 t292 t293 _ A14.out).mono ?_); rintro e w' ⟨rfl, ⟨nd, rfl⟩⟩; refine ⟨_, rfl, ?_⟩))
   (try simp only [Act.put, List.setIfInBounds_toArray, List.set_cons_zero, List.set_cons_succ])
   go_cut [50] (fun v50 wc => ∃ (kq : Nat) (x50_14 : Bool), v50 = .bool x50_14 ∧ Aside0 (mapmakerref01_CmpMul.j0 kq t284 t288 t289 t292 t293 x50_14 = some r) ∧ Aside0 (kq ≤ k) ∧ Drawn0 w wc)
   case first =>
    have H := HC15.out
    clear HC15
    by_cases c16 : t288 = t292
    ·rw [if_pos c16] at H
     have c16b0 : (t288 == t292) = true := beq_iff_eq.mpr c16
     have c16b1 : (t288 != t292) = false := bne_eq_false_iff_eq.mpr c16
     clear c16
     (first | rw [c16b0] | (simp only [i64_w, i32_w]; rw [c16b0]) | skip)
     have H' := Aside0.mk H
     clear H
     go_wp2
     go_meet
     case rel => exact ⟨_, ((t289 == t293)), (by first | rfl | (simp; done) | (simp [*]; done)), H', ⟨by first | omega | exact Nat.le_refl _⟩, by repeat (first | exact Drawn0.refl _ | apply Drawn0.step)⟩
    ·rw [if_neg c16] at H
     have c16b0 : (t288 == t292) = false := beq_eq_false_iff_ne.mpr c16
     have c16b1 : (t288 != t292) = true := bne_iff_ne.mpr c16
     (first | rw [c16b0] | (simp only [i64_w, i32_w]; rw [c16b0]) | skip)
     have H' := Aside0.mk H
     clear H
     go_wp2
     go_meet
     case rel => exact ⟨_, (false), (by first | rfl | (simp; done) | (simp [*]; done)), H', ⟨by first | omega | exact Nat.le_refl _⟩, by repeat (first | exact Drawn0.refl _ | apply Drawn0.step)⟩
   case rest =>
    clear HC15
    try clear c1
    try clear p2
    try clear c3
    try clear c4
    try clear c7
    try clear c7b0
    try clear c8
    try clear c8b0
    try clear c16
    try clear c16b0
    try clear c16b1
    obtain ⟨kq, x50_14, rfl, HA, HJ14, ⟨mc14, rfl⟩⟩ := hcut
    cases kq with
    | zero => exact absurd HA.out (by simp [mapmakerref01_CmpMul.j0])
    | succ kj14 =>
     have H := HA.out
     clear HA
     simp only [mapmakerref01_CmpMul.j0] at H
     by_cases c17 : x50_14 = true
     ·subst c17
      have H1 : (some 0) = some r := by rw [if_pos rfl] at H; exact H
      clear H
      have H := H1
      clear H1
      obtain rfl := Option.some.inj H
      go_wp2
      go_ret
      exact ⟨by first | rfl | (simp; done) | (simp [*]; done), by repeat (first | exact Drawn0.refl _ | apply Drawn0.step)⟩
     ·replace c17 := Bool.eq_false_iff.mpr c17
      subst c17
      have H1 : (if t288 < t292 then (some (wrap64 (-t284))) else (if t288 = t292 then (if t289 < t293 then (some (wrap64 (-t284))) else (some t284)) else (some t284))) = some r := by rw [if_neg (show ¬ (false = true) by decide)] at H; exact H
      clear H
      have H := H1
      clear H1
      by_cases c18 : t288 < t292
      ·rw [if_pos c18] at H
       have c18b0 : decide (t288 < t292) = true := decide_eq_true c18
       clear c18
       obtain rfl := Option.some.inj H
       go_wp2
       go_ret
       exact ⟨by first | rfl | (simp; done) | (simp [*]; done), by repeat (first | exact Drawn0.refl _ | apply Drawn0.step)⟩
      ·rw [if_neg c18] at H
       have c18b0 : decide (t288 < t292) = false := decide_eq_false c18
       clear c18
       by_cases c19 : t288 = t292
       ·rw [if_pos c19] at H
        have c19b0 : (t288 == t292) = true := beq_iff_eq.mpr c19
        have c19b1 : (t288 != t292) = false := bne_eq_false_iff_eq.mpr c19
        clear c19
        by_cases c20 : t289 < t293
        ·rw [if_pos c20] at H
         have c20b0 : decide (t289 < t293) = true := decide_eq_true c20
         clear c20
         obtain rfl := Option.some.inj H
         go_wp2
         go_ret
         exact ⟨by first | rfl | (simp; done) | (simp [*]; done), by repeat (first | exact Drawn0.refl _ | apply Drawn0.step)⟩
        ·rw [if_neg c20] at H
         have c20b0 : decide (t289 < t293) = false := decide_eq_false c20
         clear c20
         obtain rfl := Option.some.inj H
         go_wp2
         go_ret
         exact ⟨by first | rfl | (simp; done) | (simp [*]; done), by repeat (first | exact Drawn0.refl _ | apply Drawn0.step)⟩
       ·rw [if_neg c19] at H
        have c19b0 : (t288 == t292) = false := beq_eq_false_iff_ne.mpr c19
        have c19b1 : (t288 != t292) = true := bne_iff_ne.mpr c19
        obtain rfl := Option.some.inj H
        go_wp2
        go_ret
        exact ⟨by first | rfl | (simp; done) | (simp [*]; done), by repeat (first | exact Drawn0.refl _ | apply Drawn0.step)⟩

end Go.Proofs.Ytgjeiddccfmodaa.PAll
