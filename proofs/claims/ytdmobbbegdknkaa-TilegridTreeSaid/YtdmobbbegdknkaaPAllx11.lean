-- Written by a program of this session (wip/tools), over the words that print.sh lays. (slim)
import Derived.Test.YtdmobbbegdknkaaPAllx0
import Derived.Test.YtdmobbbegdknkaaPAllx10
namespace Go.Proofs.Ytdmobbbegdknkaa.PAll
open Go.RowKit Go.Proofs.YtdmobbbegdknkaaW.PrintWords Go.Proofs.YtdmobbbegdknkaaW.PrintLast Go.Proofs.YtdmobbbegdknkaaW.PrintMore
attribute [local go_sem] max2_int min2_int max_two min_two max_three min_three max_four min_four   -- for this text's walks alone
set_option linter.unusedVariables false
set_option linter.unusedSimpArgs false
attribute [local irreducible] Calls

/-! ### mapmakerref28_Size: function 20 -/
def mapmakerref28_Size.f (k : Nat) (a0 : Int) : Option (Int) := if a0 < 0 then (some 0) else (if a0 > 7 then (some 0) else ((mapmakerref28_power.f k a0).bind fun t107 => (if t107 = 0 then (none) else (some (wrap64 (Int.tdiv (32768 : Int) t107))))))
theorem mapmakerref28_Size.mono : ∀ a0 k, LeO (mapmakerref28_Size.f k a0) (mapmakerref28_Size.f (k + 1) a0) := by
 intro a0 k
 unfold mapmakerref28_Size.f
 repeat' first
   | (with_reducible exact mapmakerref28_power.mono _ _)
   | (with_reducible exact LeO.refl _)
   | (with_reducible exact LeO.none _)
   | (with_reducible refine LeO.ite ?_ ?_)
   | (with_reducible refine LeO.bind ?_ (fun _ => ?_))
   | exact mapmakerref28_power.mono _ _
   | exact LeO.none _
   | refine LeO.ite ?_ ?_
   | refine LeO.bind ?_ (fun _ => ?_)
set_option maxHeartbeats 8000000 in
set_option maxRecDepth 100000 in
theorem mapmakerref28_Size.calls (k : Nat) (a0 : Int) (r : Int) (w : World) (h : mapmakerref28_Size.f k a0 = some r) :
  Calls Try.prog 20 #[.int .i64 a0] w fun e w' => e = .returned (.int .i64 r) ∧ Drawn0 w w' := by
 have H : (if a0 < 0 then (some 0) else (if a0 > 7 then (some 0) else ((mapmakerref28_power.f k a0).bind fun t107 => (if t107 = 0 then (none) else (some (wrap64 (Int.tdiv (32768 : Int) t107))))))) = some r := h
 clear h
 by_cases c2 : a0 < 0
 ·rw [if_pos c2] at H
  have c2b0 : decide (a0 < 0) = true := decide_eq_true c2
  clear c2
  obtain rfl := Option.some.inj H
  go_enter Try.func20, Try.ntmps20
  go_wp2
  go_ret
  exact ⟨by first | rfl | (simp; done) | (simp [*]; done), by repeat (first | exact Drawn0.refl _ | apply Drawn0.step)⟩
 ·rw [if_neg c2] at H
  have c2b0 : decide (a0 < 0) = false := decide_eq_false c2
  clear c2
  by_cases c3 : a0 > 7
  ·rw [if_pos c3] at H
   have c3b0 : decide (7 < a0) = true := decide_eq_true c3
   clear c3
   obtain rfl := Option.some.inj H
   go_enter Try.func20, Try.ntmps20
   go_wp2
   go_ret
   exact ⟨by first | rfl | (simp; done) | (simp [*]; done), by repeat (first | exact Drawn0.refl _ | apply Drawn0.step)⟩
  ·rw [if_neg c3] at H
   have c3b0 : decide (7 < a0) = false := decide_eq_false c3
   clear c3
   replace H := Option.bind_eq_some_iff.mp H
   obtain ⟨t107, A40, H⟩ := H
   replace H : (if t107 = 0 then (none) else (some (wrap64 (Int.tdiv (32768 : Int) t107)))) = some r := H
   have A4 := Aside0.mk A40
   clear A40
   by_cases c5 : t107 = 0
   ·rw [if_pos c5] at H
    exact absurd H (by simp)
   ·rw [if_neg c5] at H
    have c5b0 : (t107 == 0) = false := beq_eq_false_iff_ne.mpr c5
    have c5b1 : (t107 != 0) = true := bne_iff_ne.mpr c5
    obtain rfl := Option.some.inj H
    go_enter Try.func20, Try.ntmps20
    go_wp2_with (first | ((with_reducible refine gate_callee (f := 39) rfl ?_); refine goesL_ (some 10) rfl rfl Try.func39 (by kernel_rfl) rfl #[.int .i64 a0] rfl (by (try simp only [List.map_toArray, List.map_cons, List.map_nil]); first | done | rfl | (simp only [List.length_drop, List.length_take]; rfl)) ?_; (with_reducible refine (mapmakerref28_power.calls k a0 t107 _ A4.out).mono ?_); rintro e w' ⟨rfl, ⟨nd, rfl⟩⟩; refine ⟨_, rfl, ?_⟩))
    go_ret
    exact ⟨by first | rfl | (simp; done) | (simp [*]; done), by repeat (first | exact Drawn0.refl _ | apply Drawn0.step)⟩

end Go.Proofs.Ytdmobbbegdknkaa.PAll
