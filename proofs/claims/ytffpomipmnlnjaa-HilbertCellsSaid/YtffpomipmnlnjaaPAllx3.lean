-- Written by a program of this session (wip/tools), over the words that print.sh lays. (slim)
import Derived.Test.YtffpomipmnlnjaaPAllx0
namespace Go.Proofs.Ytffpomipmnlnjaa.PAll
open Go.RowKit Go.Proofs.YtffpomipmnlnjaaW.PrintWords Go.Proofs.YtffpomipmnlnjaaW.PrintLast Go.Proofs.YtffpomipmnlnjaaW.PrintMore
attribute [local go_sem] max2_int min2_int max_two min_two max_three min_three max_four min_four   -- for this text's walks alone
set_option linter.unusedVariables false
set_option linter.unusedSimpArgs false
attribute [local irreducible] Calls

/-! ### hilbert_quarter: function 14 -/
def hilbert_quarter.f (a0 a1 : Int) : Option Int := if a0 = 0 then (if a1 = 0 then some 0 else (if a1 = 1 then some 1 else none)) else (if a0 = 1 then (if a1 = 0 then some 3 else (if a1 = 1 then some 2 else none)) else none)
theorem hilbert_quarter.row0 (w : World) : (Instr.index 34 (Value.agg #[.int .i64 0, .int .i64 1, .int .i64 3, .int .i64 2]) (.int .i64 0)).run Try.prog w = .ok (.agg #[.int .i64 0, .int .i64 1]) w := by kernel_rfl
theorem hilbert_quarter.at00 (w : World) : (Instr.index 33 (.agg #[.int .i64 0, .int .i64 1]) (.int .i64 0)).run Try.prog w = .ok (.int .i64 0) w := by kernel_rfl
theorem hilbert_quarter.at01 (w : World) : (Instr.index 33 (.agg #[.int .i64 0, .int .i64 1]) (.int .i64 1)).run Try.prog w = .ok (.int .i64 1) w := by kernel_rfl
theorem hilbert_quarter.row1 (w : World) : (Instr.index 34 (Value.agg #[.int .i64 0, .int .i64 1, .int .i64 3, .int .i64 2]) (.int .i64 1)).run Try.prog w = .ok (.agg #[.int .i64 3, .int .i64 2]) w := by kernel_rfl
theorem hilbert_quarter.at10 (w : World) : (Instr.index 33 (.agg #[.int .i64 3, .int .i64 2]) (.int .i64 0)).run Try.prog w = .ok (.int .i64 3) w := by kernel_rfl
theorem hilbert_quarter.at11 (w : World) : (Instr.index 33 (.agg #[.int .i64 3, .int .i64 2]) (.int .i64 1)).run Try.prog w = .ok (.int .i64 2) w := by kernel_rfl
set_option maxHeartbeats 2000000 in
set_option maxRecDepth 100000 in
theorem hilbert_quarter.calls00 (w : World) : Calls Try.prog 14 #[.int .i64 0, .int .i64 0] w fun e w' => e = .returned (.int .i64 0) ∧ w' = w := by
 have hu1 := Try.underlying33
 have hu2 := Try.underlying34
 have h1 := hilbert_quarter.row0
 have h2 := hilbert_quarter.at00
 go_enter Try.func14, Try.ntmps14
 go_wp2
 go_ret
 exact ⟨rfl, rfl⟩
set_option maxHeartbeats 2000000 in
set_option maxRecDepth 100000 in
theorem hilbert_quarter.calls01 (w : World) : Calls Try.prog 14 #[.int .i64 0, .int .i64 1] w fun e w' => e = .returned (.int .i64 1) ∧ w' = w := by
 have hu1 := Try.underlying33
 have hu2 := Try.underlying34
 have h1 := hilbert_quarter.row0
 have h2 := hilbert_quarter.at01
 go_enter Try.func14, Try.ntmps14
 go_wp2
 go_ret
 exact ⟨rfl, rfl⟩
set_option maxHeartbeats 2000000 in
set_option maxRecDepth 100000 in
theorem hilbert_quarter.calls10 (w : World) : Calls Try.prog 14 #[.int .i64 1, .int .i64 0] w fun e w' => e = .returned (.int .i64 3) ∧ w' = w := by
 have hu1 := Try.underlying33
 have hu2 := Try.underlying34
 have h1 := hilbert_quarter.row1
 have h2 := hilbert_quarter.at10
 go_enter Try.func14, Try.ntmps14
 go_wp2
 go_ret
 exact ⟨rfl, rfl⟩
set_option maxHeartbeats 2000000 in
set_option maxRecDepth 100000 in
theorem hilbert_quarter.calls11 (w : World) : Calls Try.prog 14 #[.int .i64 1, .int .i64 1] w fun e w' => e = .returned (.int .i64 2) ∧ w' = w := by
 have hu1 := Try.underlying33
 have hu2 := Try.underlying34
 have h1 := hilbert_quarter.row1
 have h2 := hilbert_quarter.at11
 go_enter Try.func14, Try.ntmps14
 go_wp2
 go_ret
 exact ⟨rfl, rfl⟩
theorem hilbert_quarter.calls (a0 a1 : Int) (r : Int) (w : World) (h : hilbert_quarter.f a0 a1 = some r) :
  Calls Try.prog 14 #[.int .i64 a0, .int .i64 a1] w fun e w' => e = .returned (.int .i64 r) ∧ w' = w := by
 unfold hilbert_quarter.f at h
 by_cases c0 : a0 = 0
 ·by_cases c1 : a1 = 0
  ·rw [if_pos c0, if_pos c1] at h
   obtain rfl := Option.some.inj h
   rw [c0, c1]
   exact hilbert_quarter.calls00 w
  ·by_cases c2 : a1 = 1
   ·rw [if_pos c0, if_neg c1, if_pos c2] at h
    obtain rfl := Option.some.inj h
    rw [c0, c2]
    exact hilbert_quarter.calls01 w
   ·rw [if_pos c0, if_neg c1, if_neg c2] at h
    cases h
 ·by_cases c3 : a0 = 1
  ·by_cases c1 : a1 = 0
   ·rw [if_neg c0, if_pos c3, if_pos c1] at h
    obtain rfl := Option.some.inj h
    rw [c3, c1]
    exact hilbert_quarter.calls10 w
   ·by_cases c2 : a1 = 1
    ·rw [if_neg c0, if_pos c3, if_neg c1, if_pos c2] at h
     obtain rfl := Option.some.inj h
     rw [c3, c2]
     exact hilbert_quarter.calls11 w
    ·rw [if_neg c0, if_pos c3, if_neg c1, if_neg c2] at h
     cases h
  ·rw [if_neg c0, if_neg c3] at h
   cases h

end Go.Proofs.Ytffpomipmnlnjaa.PAll
