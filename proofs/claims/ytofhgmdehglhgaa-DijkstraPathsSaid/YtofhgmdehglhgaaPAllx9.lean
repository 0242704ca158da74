-- Written by a program of this session (wip/tools), over the words that print.sh lays. (slim)
import Derived.Test.YtofhgmdehglhgaaDk
import Derived.Test.YtofhgmdehglhgaaPAllx0
namespace Go.Proofs.Ytofhgmdehglhgaa.PAll
open Go.RowKit Go.Proofs.YtofhgmdehglhgaaW.PrintWords Go.Proofs.YtofhgmdehglhgaaW.PrintLast Go.Proofs.YtofhgmdehglhgaaW.PrintMore
attribute [local go_sem] max2_int min2_int max_two min_two max_three min_three max_four min_four   -- for this text's walks alone
set_option linter.unusedVariables false
set_option linter.unusedSimpArgs false
attribute [local irreducible] Calls

/-! ### dijkstra_Path: function 9 -/
def dijkstra_Path.f (k : Nat) (a0_0 : Int) (l0_1 : List (S40)) (l1 : List Int) (a2 : Int) (a3 : Int) : Option (List Int × Int × Int) := pathP k a0_0 l0_1 l1 a2 a3
theorem dijkstra_Path.mono : ∀ a0 a1 a2 a3 a4 k, LeO (dijkstra_Path.f k a0 a1 a2 a3 a4) (dijkstra_Path.f (k + 1) a0 a1 a2 a3 a4) := fun a0 a1 a2 a3 a4 k => pathP_mono a0 a1 a2 a3 a4 k
theorem dijkstra_Path.calls (k : Nat) (a0_0 : Int) (A0_1 : Option Addr) (c0_1 : Nat) (l0_1 : List (S40)) (A1 : Option Addr) (c1 : Nat) (l1 : List Int) (a2 : Int) (a3 : Int) (r1 : List Int) (r2 : Int) (r3 : Int) (w : World) (hr0_1 : Kd.C k40 w A0_1 l0_1.length l0_1) (hc0_1 : l0_1.length ≤ c0_1) (hr1 : Kd.C (Kd.int .i64) w A1 l1.length l1) (hc1 : l1.length ≤ c1) (h : dijkstra_Path.f k a0_0 l0_1 l1 a2 a3 = some (r1, r2, r3)) :
  Calls Try.prog 9 #[.agg #[.int .i64 a0_0, .slice A0_1 l0_1.length c0_1], .slice A1 l1.length c1, .int .i64 a2, .int .i64 a3] w fun e w' => ∃ v0_ : Value, e = .returned (.tuple #[v0_, .int .i64 r2, .int .i64 r3]) ∧ Kd.R (Kd.int .i64) 3 w' w.heap.size (fun _ => True) v0_ r1 ∧ Below w.heap.size w w' :=
 dijkstra_Path_walk k a0_0 A0_1 c0_1 l0_1 A1 c1 l1 a2 a3 r1 r2 r3 w hr0_1 hc0_1 hr1 hc1 h

end Go.Proofs.Ytofhgmdehglhgaa.PAll
