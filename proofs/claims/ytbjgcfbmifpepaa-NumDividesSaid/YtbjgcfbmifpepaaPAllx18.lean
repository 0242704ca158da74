-- Written by a program of this session (wip/tools), over the words that print.sh lays.
import Derived.Test.YtbjgcfbmifpepaaPAllx0
import Derived.Test.YtbjgcfbmifpepaaPAllx3
import Derived.Test.YtbjgcfbmifpepaaPAllx4
import Derived.Test.YtbjgcfbmifpepaaPAllx14
import Derived.Test.YtbjgcfbmifpepaaPAllx16
import Derived.Test.YtbjgcfbmifpepaaPAllx17
namespace Go.Proofs.Ytbjgcfbmifpepaa.PAll
open Go.RowKit Go.Proofs.YtbjgcfbmifpepaaW.PrintWords Go.Proofs.YtbjgcfbmifpepaaW.PrintLast Go.Proofs.YtbjgcfbmifpepaaW.PrintMore
attribute [local go_sem] max2_int min2_int max_two min_two max_three min_three max_four min_four   -- for this text's walks alone
set_option linter.unusedVariables false
set_option linter.unusedSimpArgs false
attribute [local irreducible] Calls

/-! ### mapmakerlaw01_NumDivides: function 4 -/
def mapmakerlaw01_NumDivides.f (k : Nat) (a0 : Int) (a1 : Int) : Option (Bool) := (num_FloorDiv.f a0 a1).bind fun t134 => ((mapmakerref01_FloorDiv.f a0 a1).bind fun t135 => (if t134 = t135 then ((num_RoundDiv.f k a0 a1).bind fun t136 => ((mapmakerref01_RoundDiv.f k a0 a1).bind fun t137 => (if t136 = t137 then ((mapmakerlaw01_lives.f k).bind fun t138 => (some t138)) else (none)))) else (none)))
theorem mapmakerlaw01_NumDivides.mono : ∀ a0 a1 k, LeO (mapmakerlaw01_NumDivides.f k a0 a1) (mapmakerlaw01_NumDivides.f (k + 1) a0 a1) := by
 intro a0 a1 k
 unfold mapmakerlaw01_NumDivides.f
 repeat' first
   | (with_reducible exact mapmakerlaw01_lives.mono _)
   | (with_reducible exact mapmakerref01_RoundDiv.mono _ _ _)
   | (with_reducible exact num_RoundDiv.mono _ _ _)
   | (with_reducible exact LeO.refl _)
   | (with_reducible exact LeO.none _)
   | (with_reducible refine LeO.ite ?_ ?_)
   | (with_reducible refine LeO.bind ?_ (fun _ => ?_))
   | exact mapmakerlaw01_lives.mono _
   | exact mapmakerref01_RoundDiv.mono _ _ _
   | exact num_RoundDiv.mono _ _ _
   | exact LeO.none _
   | refine LeO.ite ?_ ?_
   | refine LeO.bind ?_ (fun _ => ?_)
set_option maxHeartbeats 8000000 in
set_option maxRecDepth 100000 in
theorem mapmakerlaw01_NumDivides.calls (k : Nat) (a0 : Int) (a1 : Int) (r : Bool) (w : World) (h : mapmakerlaw01_NumDivides.f k a0 a1 = some r) :
  Calls Try.prog 4 #[.int .i64 a0, .int .i64 a1] w fun e w' => e = .returned (.bool r) ∧ Below w.heap.size w w' := by
 have HB := Aside0.mk (Below.refl w.heap.size w)
 have H : ((num_FloorDiv.f a0 a1).bind fun t134 => ((mapmakerref01_FloorDiv.f a0 a1).bind fun t135 => (if t134 = t135 then ((num_RoundDiv.f k a0 a1).bind fun t136 => ((mapmakerref01_RoundDiv.f k a0 a1).bind fun t137 => (if t136 = t137 then ((mapmakerlaw01_lives.f k).bind fun t138 => (some t138)) else (none)))) else (none)))) = some r := h
 clear h
 replace H := Option.bind_eq_some_iff.mp H
 obtain ⟨t134, A30, H⟩ := H
 replace H : ((mapmakerref01_FloorDiv.f a0 a1).bind fun t135 => (if t134 = t135 then ((num_RoundDiv.f k a0 a1).bind fun t136 => ((mapmakerref01_RoundDiv.f k a0 a1).bind fun t137 => (if t136 = t137 then ((mapmakerlaw01_lives.f k).bind fun t138 => (some t138)) else (none)))) else (none))) = some r := H
 have A3 := Aside0.mk A30
 clear A30
 replace H := Option.bind_eq_some_iff.mp H
 obtain ⟨t135, A40, H⟩ := H
 replace H : (if t134 = t135 then ((num_RoundDiv.f k a0 a1).bind fun t136 => ((mapmakerref01_RoundDiv.f k a0 a1).bind fun t137 => (if t136 = t137 then ((mapmakerlaw01_lives.f k).bind fun t138 => (some t138)) else (none)))) else (none)) = some r := H
 have A4 := Aside0.mk A40
 clear A40
 by_cases c5 : t134 = t135
 ·rw [if_pos c5] at H
  have c5b0 : (t134 == t135) = true := beq_iff_eq.mpr c5
  have c5b1 : (t134 != t135) = false := bne_eq_false_iff_eq.mpr c5
  clear c5
  replace H := Option.bind_eq_some_iff.mp H
  obtain ⟨t136, A60, H⟩ := H
  replace H : ((mapmakerref01_RoundDiv.f k a0 a1).bind fun t137 => (if t136 = t137 then ((mapmakerlaw01_lives.f k).bind fun t138 => (some t138)) else (none))) = some r := H
  have A6 := Aside0.mk A60
  clear A60
  replace H := Option.bind_eq_some_iff.mp H
  obtain ⟨t137, A70, H⟩ := H
  replace H : (if t136 = t137 then ((mapmakerlaw01_lives.f k).bind fun t138 => (some t138)) else (none)) = some r := H
  have A7 := Aside0.mk A70
  clear A70
  by_cases c8 : t136 = t137
  ·rw [if_pos c8] at H
   have c8b0 : (t136 == t137) = true := beq_iff_eq.mpr c8
   have c8b1 : (t136 != t137) = false := bne_eq_false_iff_eq.mpr c8
   clear c8
   replace H := Option.bind_eq_some_iff.mp H
   obtain ⟨t138, A90, H⟩ := H
   replace H : (some t138) = some r := H
   have A9 := Aside0.mk A90
   clear A90
   obtain rfl := Option.some.inj H
   go_enter Try.func4, Try.ntmps4
   go_wp2_with (first | ((with_reducible refine gate_callee (f := 14) rfl ?_); refine goesL_ (some 7) rfl rfl Try.func14 (by kernel_rfl) rfl #[.int .i64 a0, .int .i64 a1] rfl (by (try simp only [List.map_toArray, List.map_cons, List.map_nil]); first | done | rfl | (simp only [List.length_drop, List.length_take]; rfl)) ?_; (with_reducible refine (num_FloorDiv.calls a0 a1 t134 _ A3.out).mono ?_); rintro e w' ⟨rfl, ⟨nd, rfl⟩⟩; refine ⟨_, rfl, ?_⟩) | ((with_reducible refine gate_callee (f := 15) rfl ?_); refine goesL_ (some 10) rfl rfl Try.func15 (by kernel_rfl) rfl #[.int .i64 a0, .int .i64 a1] rfl (by (try simp only [List.map_toArray, List.map_cons, List.map_nil]); first | done | rfl | (simp only [List.length_drop, List.length_take]; rfl)) ?_; (with_reducible refine (mapmakerref01_FloorDiv.calls a0 a1 t135 _ A4.out).mono ?_); rintro e w' ⟨rfl, ⟨nd, rfl⟩⟩; refine ⟨_, rfl, ?_⟩) | (go_at_call 16; (with_reducible refine (num_RoundDiv.calls k a0 a1 t136 _ A6.out).mono ?_); rintro e w' ⟨rfl, ⟨nd, rfl⟩⟩) | (go_at_call 17; (with_reducible refine (mapmakerref01_RoundDiv.calls k a0 a1 t137 _ A7.out).mono ?_); rintro e w' ⟨rfl, ⟨nd, rfl⟩⟩) | (go_at_call 13; (with_reducible refine (mapmakerlaw01_lives.calls k  t138 _ A9.out).mono ?_); rintro e w10 ⟨rfl, hb⟩; have n0_ := Aside0.mk (below_step (by repeat (first | (with_reducible first | exact HB.out | apply below_alloc | apply pw_below_drewN | apply below_drew1) | exact HB.out)) hb); clear HB; have HB := n0_; clear n0_; (try clear hb); (try clear hb2); (try clear hk); (try clear hi)))
   go_ret
   exact ⟨by first | rfl | (simp [errW_none, errW_some] <;> rfl) | (simp [*, errW_none, errW_some] <;> rfl), by repeat (first | (with_reducible first | exact HB.out | apply below_alloc | apply pw_below_drewN | apply below_drew1) | exact HB.out)⟩
  ·rw [if_neg c8] at H
   exact absurd H (by simp)
 ·rw [if_neg c5] at H
  exact absurd H (by simp)

/-- THE ONE PURE STATEMENT of mapmakerlaw01_NumDivides: yours. -/
def mapmakerlaw01_NumDivides.Pure : Prop := ∀ (a0 : Int) (a1 : Int), (Lit.int .i64 a0).wf = true → (Lit.int .i64 a1).wf = true → ∃ k, mapmakerlaw01_NumDivides.f k a0 a1 = some true
theorem mapmakerlaw01_NumDivides.walk (P : mapmakerlaw01_NumDivides.Pure) (a0 : Int) (a1 : Int) (w : World) (w0 : (Lit.int .i64 a0).wf = true) (w1 : (Lit.int .i64 a1).wf = true) :
  Calls Try.prog 4 #[.int .i64 a0, .int .i64 a1] w fun e w' => e = .returned (.bool true) ∧ Below w.heap.size w w' := by
 obtain ⟨k, h⟩ := P a0 a1 w0 w1
 refine (mapmakerlaw01_NumDivides.calls k a0 a1 true w h).mono ?_
 rintro e w' ⟨rfl, hd⟩
 exact ⟨rfl, hd⟩

end Go.Proofs.Ytbjgcfbmifpepaa.PAll
