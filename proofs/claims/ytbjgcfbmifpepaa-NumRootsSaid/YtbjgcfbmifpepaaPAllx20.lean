-- Written by a program of this session (wip/tools), over the words that print.sh lays.
import Derived.Test.YtbjgcfbmifpepaaPAllx0
import Derived.Test.YtbjgcfbmifpepaaPAllx5
import Derived.Test.YtbjgcfbmifpepaaPAllx14
import Derived.Test.YtbjgcfbmifpepaaPAllx19
namespace Go.Proofs.Ytbjgcfbmifpepaa.PAll
open Go.RowKit Go.Proofs.YtbjgcfbmifpepaaW.PrintWords Go.Proofs.YtbjgcfbmifpepaaW.PrintLast Go.Proofs.YtbjgcfbmifpepaaW.PrintMore
attribute [local go_sem] max2_int min2_int max_two min_two max_three min_three max_four min_four   -- for this text's walks alone
set_option linter.unusedVariables false
set_option linter.unusedSimpArgs false
attribute [local irreducible] Calls

/-! ### mapmakerlaw01_NumRoots: function 5 -/
def mapmakerlaw01_NumRoots.j0 : Nat → Int → Bool → Option (Bool)
 | 0, _, _ => none
 | k + 1, x0, x18 => if x18 = true then (none) else ((num_Sqrt.f k x0).bind fun t140 => ((mapmakerref01_Sqrt.f k x0).bind fun t141 => (if t140 = t141 then ((mapmakerlaw01_lives.f k).bind fun t142 => (some t142)) else (none))))
def mapmakerlaw01_NumRoots.f (k : Nat) (a0 : Int) (a1 : Int) : Option (Bool) := if a1 ≥ 0 then (if a1 ≤ 3037000499 then ((num_Sqrt.f k (wrap64 (a1 * a1))).bind fun t139 => (mapmakerlaw01_NumRoots.j0 k a0 (t139 != a1))) else (mapmakerlaw01_NumRoots.j0 k a0 false)) else (mapmakerlaw01_NumRoots.j0 k a0 false)
theorem mapmakerlaw01_NumRoots.mono_l : ∀ k, (∀ y0 y1, LeO (mapmakerlaw01_NumRoots.j0 k y0 y1) (mapmakerlaw01_NumRoots.j0 (k + 1) y0 y1))
 | 0 => fun _ _ r h => by simp [mapmakerlaw01_NumRoots.j0] at h
 | k + 1 => by
  have ih0 := mapmakerlaw01_NumRoots.mono_l k
  ·intro y0 y1
   unfold mapmakerlaw01_NumRoots.j0
   repeat' first
   | (with_reducible exact ih0 _ _)
   | (with_reducible exact mapmakerlaw01_lives.mono _)
   | (with_reducible exact mapmakerref01_Sqrt.mono _ _)
   | (with_reducible exact num_Sqrt.mono _ _)
   | (with_reducible exact LeO.refl _)
   | (with_reducible exact LeO.none _)
   | (with_reducible refine LeO.ite ?_ ?_)
   | (with_reducible refine LeO.bind ?_ (fun _ => ?_))
   | exact ih0 _ _
   | exact mapmakerlaw01_lives.mono _
   | exact mapmakerref01_Sqrt.mono _ _
   | exact num_Sqrt.mono _ _
   | exact LeO.none _
   | refine LeO.ite ?_ ?_
   | refine LeO.bind ?_ (fun _ => ?_)
theorem mapmakerlaw01_NumRoots.mono : ∀ a0 a1 k, LeO (mapmakerlaw01_NumRoots.f k a0 a1) (mapmakerlaw01_NumRoots.f (k + 1) a0 a1) := by
 intro a0 a1 k
 have ih0 := mapmakerlaw01_NumRoots.mono_l k
 unfold mapmakerlaw01_NumRoots.f
 repeat' first
   | (with_reducible exact ih0 _ _)
   | (with_reducible exact mapmakerlaw01_lives.mono _)
   | (with_reducible exact mapmakerref01_Sqrt.mono _ _)
   | (with_reducible exact num_Sqrt.mono _ _)
   | (with_reducible exact LeO.refl _)
   | (with_reducible exact LeO.none _)
   | (with_reducible refine LeO.ite ?_ ?_)
   | (with_reducible refine LeO.bind ?_ (fun _ => ?_))
   | exact ih0 _ _
   | exact mapmakerlaw01_lives.mono _
   | exact mapmakerref01_Sqrt.mono _ _
   | exact num_Sqrt.mono _ _
   | exact LeO.none _
   | refine LeO.ite ?_ ?_
   | refine LeO.bind ?_ (fun _ => ?_)
set_option maxHeartbeats 8000000 in
set_option maxRecDepth 100000 in
theorem mapmakerlaw01_NumRoots.calls (k : Nat) (a0 : Int) (a1 : Int) (r : Bool) (w : World) (h : mapmakerlaw01_NumRoots.f k a0 a1 = some r) :
  Calls Try.prog 5 #[.int .i64 a0, .int .i64 a1] w fun e w' => e = .returned (.bool r) ∧ Below w.heap.size w w' := by
 have HB := Aside0.mk (Below.refl w.heap.size w)
 have H : (if a1 ≥ 0 then (if a1 ≤ 3037000499 then ((num_Sqrt.f k (wrap64 (a1 * a1))).bind fun t139 => (mapmakerlaw01_NumRoots.j0 k a0 (t139 != a1))) else (mapmakerlaw01_NumRoots.j0 k a0 false)) else (mapmakerlaw01_NumRoots.j0 k a0 false)) = some r := h
 clear h
 have HC3 := Aside0.mk H
 clear H
 go_enter Try.func5, Try.ntmps5
 go_upto_region 1 with (fail)
 go_cut [18] (fun v18 wc => ∃ (kq : Nat) (x18_2 : Bool), v18 = .bool x18_2 ∧ Aside0 (mapmakerlaw01_NumRoots.j0 kq a0 x18_2 = some r) ∧ Aside0 (kq ≤ k) ∧ Aside0 (Below w.heap.size w wc))
 case first =>
  have H := HC3.out
  clear HC3
  by_cases c4 : a1 ≥ 0
  ·rw [if_pos c4] at H
   have c4b0 : decide (0 ≤ a1) = true := decide_eq_true c4
   clear c4
   (first | rw [c4b0] | (simp only [i64_w, i32_w]; rw [c4b0]) | skip)
   by_cases c5 : a1 ≤ 3037000499
   ·rw [if_pos c5] at H
    have c5b0 : decide (a1 ≤ 3037000499) = true := decide_eq_true c5
    clear c5
    replace H := Option.bind_eq_some_iff.mp H
    obtain ⟨t139, A60, H⟩ := H
    replace H : (mapmakerlaw01_NumRoots.j0 k a0 (t139 != a1)) = some r := H
    have A6 := Aside0.mk A60
    clear A60
    have H' := Aside0.mk H
    clear H
    go_wp2_with (first | (go_at_call 18; (with_reducible refine (num_Sqrt.calls k (wrap64 (a1 * a1)) t139 _ A6.out).mono ?_); rintro e w' ⟨rfl, ⟨nd, rfl⟩⟩))
    go_meet
    case rel => exact ⟨_, ((t139 != a1)), (by first | rfl | (simp; done) | (simp [*]; done)), H', ⟨by first | omega | exact Nat.le_refl _⟩, ⟨by repeat (first | (with_reducible first | exact HB.out | apply below_alloc | apply pw_below_drewN | apply below_drew1) | exact HB.out)⟩⟩
   ·rw [if_neg c5] at H
    have c5b0 : decide (a1 ≤ 3037000499) = false := decide_eq_false c5
    clear c5
    have H' := Aside0.mk H
    clear H
    go_wp2
    go_meet
    case rel => exact ⟨_, (false), (by first | rfl | (simp; done) | (simp [*]; done)), H', ⟨by first | omega | exact Nat.le_refl _⟩, ⟨by repeat (first | (with_reducible first | exact HB.out | apply below_alloc | apply pw_below_drewN | apply below_drew1) | exact HB.out)⟩⟩
  ·rw [if_neg c4] at H
   have c4b0 : decide (0 ≤ a1) = false := decide_eq_false c4
   clear c4
   (first | rw [c4b0] | (simp only [i64_w, i32_w]; rw [c4b0]) | skip)
   have H' := Aside0.mk H
   clear H
   go_wp2
   go_meet
   case rel => exact ⟨_, (false), (by first | rfl | (simp; done) | (simp [*]; done)), H', ⟨by first | omega | exact Nat.le_refl _⟩, ⟨by repeat (first | (with_reducible first | exact HB.out | apply below_alloc | apply pw_below_drewN | apply below_drew1) | exact HB.out)⟩⟩
 case rest =>
  clear HC3
  try clear p2
  try clear c4
  try clear c4b0
  try clear c5
  try clear c5b0
  try clear p6
  obtain ⟨kq, x18_2, rfl, HA, HJ2, HB⟩ := hcut
  cases kq with
  | zero => exact absurd HA.out (by simp [mapmakerlaw01_NumRoots.j0])
  | succ kj2 =>
   have H := HA.out
   clear HA
   simp only [mapmakerlaw01_NumRoots.j0] at H
   by_cases c7 : x18_2 = true
   ·subst c7
    have H1 : (none) = some r := by rw [if_pos rfl] at H; exact H
    clear H
    have H := H1
    clear H1
    exact absurd H (by simp)
   ·replace c7 := Bool.eq_false_iff.mpr c7
    subst c7
    have H1 : ((num_Sqrt.f kj2 a0).bind fun t140 => ((mapmakerref01_Sqrt.f kj2 a0).bind fun t141 => (if t140 = t141 then ((mapmakerlaw01_lives.f kj2).bind fun t142 => (some t142)) else (none)))) = some r := by rw [if_neg (show ¬ (false = true) by decide)] at H; exact H
    clear H
    have H := H1
    clear H1
    replace H := Option.bind_eq_some_iff.mp H
    obtain ⟨t140, A80, H⟩ := H
    replace H : ((mapmakerref01_Sqrt.f kj2 a0).bind fun t141 => (if t140 = t141 then ((mapmakerlaw01_lives.f kj2).bind fun t142 => (some t142)) else (none))) = some r := H
    have A8 := Aside0.mk A80
    clear A80
    replace H := Option.bind_eq_some_iff.mp H
    obtain ⟨t141, A90, H⟩ := H
    replace H : (if t140 = t141 then ((mapmakerlaw01_lives.f kj2).bind fun t142 => (some t142)) else (none)) = some r := H
    have A9 := Aside0.mk A90
    clear A90
    by_cases c10 : t140 = t141
    ·rw [if_pos c10] at H
     have c10b0 : (t140 == t141) = true := beq_iff_eq.mpr c10
     have c10b1 : (t140 != t141) = false := bne_eq_false_iff_eq.mpr c10
     clear c10
     replace H := Option.bind_eq_some_iff.mp H
     obtain ⟨t142, A110, H⟩ := H
     replace H : (some t142) = some r := H
     have A11 := Aside0.mk A110
     clear A110
     obtain rfl := Option.some.inj H
     go_wp2_with (first | ((with_reducible refine gate_callee (f := 18) rfl ?_); refine goesL_ (some 20) rfl rfl Try.func18 (by kernel_rfl) rfl #[.int .i64 a0] rfl (by (try simp only [List.map_toArray, List.map_cons, List.map_nil]); first | done | rfl | (simp only [List.length_drop, List.length_take]; rfl)) ?_; (with_reducible refine (num_Sqrt.calls kj2 a0 t140 _ A8.out).mono ?_); rintro e w' ⟨rfl, ⟨nd, rfl⟩⟩; refine ⟨_, rfl, ?_⟩) | ((with_reducible refine gate_callee (f := 19) rfl ?_); refine goesL_ (some 22) rfl rfl Try.func19 (by kernel_rfl) rfl #[.int .i64 a0] rfl (by (try simp only [List.map_toArray, List.map_cons, List.map_nil]); first | done | rfl | (simp only [List.length_drop, List.length_take]; rfl)) ?_; (with_reducible refine (mapmakerref01_Sqrt.calls kj2 a0 t141 _ A9.out).mono ?_); rintro e w' ⟨rfl, ⟨nd, rfl⟩⟩; refine ⟨_, rfl, ?_⟩) | (go_at_call 13; (with_reducible refine (mapmakerlaw01_lives.calls kj2  t142 _ A11.out).mono ?_); rintro e w12 ⟨rfl, hb⟩; have n0_ := Aside0.mk (below_step (by repeat (first | (with_reducible first | exact HB.out | apply below_alloc | apply pw_below_drewN | apply below_drew1) | exact HB.out)) hb); clear HB; have HB := n0_; clear n0_; (try clear hb); (try clear hb2); (try clear hk); (try clear hi)))
     go_ret
     exact ⟨by first | rfl | (simp [errW_none, errW_some] <;> rfl) | (simp [*, errW_none, errW_some] <;> rfl), by repeat (first | (with_reducible first | exact HB.out | apply below_alloc | apply pw_below_drewN | apply below_drew1) | exact HB.out)⟩
    ·rw [if_neg c10] at H
     exact absurd H (by simp)

/-- THE ONE PURE STATEMENT of mapmakerlaw01_NumRoots: yours. -/
def mapmakerlaw01_NumRoots.Pure : Prop := ∀ (a0 : Int) (a1 : Int), (Lit.int .i64 a0).wf = true → (Lit.int .i64 a1).wf = true → ∃ k, mapmakerlaw01_NumRoots.f k a0 a1 = some true
theorem mapmakerlaw01_NumRoots.walk (P : mapmakerlaw01_NumRoots.Pure) (a0 : Int) (a1 : Int) (w : World) (w0 : (Lit.int .i64 a0).wf = true) (w1 : (Lit.int .i64 a1).wf = true) :
  Calls Try.prog 5 #[.int .i64 a0, .int .i64 a1] w fun e w' => e = .returned (.bool true) ∧ Below w.heap.size w w' := by
 obtain ⟨k, h⟩ := P a0 a1 w0 w1
 refine (mapmakerlaw01_NumRoots.calls k a0 a1 true w h).mono ?_
 rintro e w' ⟨rfl, hd⟩
 exact ⟨rfl, hd⟩

end Go.Proofs.Ytbjgcfbmifpepaa.PAll
