-- Written by a program of this session (wip/tools), over the words that print.sh lays.
import Derived.Test.YtbjgcfbmifpepaaPAllx0
import Derived.Test.YtbjgcfbmifpepaaPAllx12
import Derived.Test.YtbjgcfbmifpepaaPAllx14
import Derived.Test.YtbjgcfbmifpepaaPAllx24
namespace Go.Proofs.Ytbjgcfbmifpepaa.PAll
open Go.RowKit Go.Proofs.YtbjgcfbmifpepaaW.PrintWords Go.Proofs.YtbjgcfbmifpepaaW.PrintLast Go.Proofs.YtbjgcfbmifpepaaW.PrintMore
attribute [local go_sem] max2_int min2_int max_two min_two max_three min_three max_four min_four   -- for this text's walks alone
set_option linter.unusedVariables false
set_option linter.unusedSimpArgs false
attribute [local irreducible] Calls

/-! ### mapmakerlaw01_NumMulDivs: function 7 -/
def mapmakerlaw01_NumMulDivs.f (k : Nat) (a0 : Int) (a1 : Int) (a2 : Int) : Option (Bool) := (num_MulDiv.f k a0 a1 a2).bind fun bt152 => ((mapmakerref01_MulDiv.f k a0 a1 a2).bind fun bt154 => (if bt152.1 = bt154.1 then (if (bt152.2 == bt154.2) = true then ((mapmakerlaw01_lives.f k).bind fun t156 => (some t156)) else (none)) else (none)))
theorem mapmakerlaw01_NumMulDivs.mono : ∀ a0 a1 a2 k, LeO (mapmakerlaw01_NumMulDivs.f k a0 a1 a2) (mapmakerlaw01_NumMulDivs.f (k + 1) a0 a1 a2) := by
 intro a0 a1 a2 k
 unfold mapmakerlaw01_NumMulDivs.f
 repeat' first
   | (with_reducible exact mapmakerlaw01_lives.mono _)
   | (with_reducible exact mapmakerref01_MulDiv.mono _ _ _ _)
   | (with_reducible exact num_MulDiv.mono _ _ _ _)
   | (with_reducible exact LeO.refl _)
   | (with_reducible exact LeO.none _)
   | (with_reducible refine LeO.ite ?_ ?_)
   | (with_reducible refine LeO.bind ?_ (fun _ => ?_))
   | exact mapmakerlaw01_lives.mono _
   | exact mapmakerref01_MulDiv.mono _ _ _ _
   | exact num_MulDiv.mono _ _ _ _
   | exact LeO.none _
   | refine LeO.ite ?_ ?_
   | refine LeO.bind ?_ (fun _ => ?_)
set_option maxHeartbeats 8000000 in
set_option maxRecDepth 100000 in
theorem mapmakerlaw01_NumMulDivs.calls (k : Nat) (a0 : Int) (a1 : Int) (a2 : Int) (r : Bool) (w : World) (h : mapmakerlaw01_NumMulDivs.f k a0 a1 a2 = some r) :
  Calls Try.prog 7 #[.int .i64 a0, .int .i64 a1, .int .i64 a2] w fun e w' => e = .returned (.bool r) ∧ Below w.heap.size w w' := by
 have HB := Aside0.mk (Below.refl w.heap.size w)
 have H : ((num_MulDiv.f k a0 a1 a2).bind fun bt152 => ((mapmakerref01_MulDiv.f k a0 a1 a2).bind fun bt154 => (if bt152.1 = bt154.1 then (if (bt152.2 == bt154.2) = true then ((mapmakerlaw01_lives.f k).bind fun t156 => (some t156)) else (none)) else (none)))) = some r := h
 clear h
 replace H := Option.bind_eq_some_iff.mp H
 obtain ⟨⟨t152, t153⟩, A40, H⟩ := H
 replace H : ((mapmakerref01_MulDiv.f k a0 a1 a2).bind fun bt154 => (if t152 = bt154.1 then (if (t153 == bt154.2) = true then ((mapmakerlaw01_lives.f k).bind fun t156 => (some t156)) else (none)) else (none))) = some r := H
 have A4 := Aside0.mk A40
 clear A40
 replace H := Option.bind_eq_some_iff.mp H
 obtain ⟨⟨t154, t155⟩, A50, H⟩ := H
 replace H : (if t152 = t154 then (if (t153 == t155) = true then ((mapmakerlaw01_lives.f k).bind fun t156 => (some t156)) else (none)) else (none)) = some r := H
 have A5 := Aside0.mk A50
 clear A50
 by_cases c6 : t152 = t154
 ·rw [if_pos c6] at H
  have c6b0 : (t152 == t154) = true := beq_iff_eq.mpr c6
  have c6b1 : (t152 != t154) = false := bne_eq_false_iff_eq.mpr c6
  clear c6
  by_cases c7 : (t153 == t155) = true
  ·rw [if_pos c7] at H
   have c7b0 : (t153 == t155) = true := c7
   (try (have c7b1 : decide (t153 = t155) = true := by simpa using c7))
   (try (have c7b2 : (t153 == t155) = true := by simpa using c7))
   clear c7
   replace H := Option.bind_eq_some_iff.mp H
   obtain ⟨t156, A80, H⟩ := H
   replace H : (some t156) = some r := H
   have A8 := Aside0.mk A80
   clear A80
   obtain rfl := Option.some.inj H
   go_enter Try.func7, Try.ntmps7
   go_wp2_with (first | ((with_reducible refine gate_callee (f := 22) rfl ?_); refine goesL_ (some 15) rfl rfl Try.func22 (by kernel_rfl) rfl #[.int .i64 a0, .int .i64 a1, .int .i64 a2] rfl (by (try simp only [List.map_toArray, List.map_cons, List.map_nil]); first | done | rfl | (simp only [List.length_drop, List.length_take]; rfl)) ?_; (with_reducible refine (num_MulDiv.calls k a0 a1 a2 t152 t153 _ A4.out).mono ?_); rintro e w9 ⟨rfl, hb⟩; refine ⟨_, rfl, ?_⟩; have n0_ := Aside0.mk (below_step (by repeat (first | (with_reducible first | exact HB.out | apply below_alloc | apply pw_below_drewN | apply below_drew1) | exact HB.out)) hb); clear HB; have HB := n0_; clear n0_; (try clear hb); (try clear hb2); (try clear hk); (try clear hi)) | ((with_reducible refine gate_callee (f := 23) rfl ?_); refine goesL_ (some 22) rfl rfl Try.func23 (by kernel_rfl) rfl #[.int .i64 a0, .int .i64 a1, .int .i64 a2] rfl (by (try simp only [List.map_toArray, List.map_cons, List.map_nil]); first | done | rfl | (simp only [List.length_drop, List.length_take]; rfl)) ?_; (with_reducible refine (mapmakerref01_MulDiv.calls k a0 a1 a2 t154 t155 _ A5.out).mono ?_); rintro e w' ⟨rfl, ⟨nd, rfl⟩⟩; refine ⟨_, rfl, ?_⟩) | (go_at_call 13; (with_reducible refine (mapmakerlaw01_lives.calls k  t156 _ A8.out).mono ?_); rintro e w10 ⟨rfl, hb⟩; have n0_ := Aside0.mk (below_step (by repeat (first | (with_reducible first | exact HB.out | apply below_alloc | apply pw_below_drewN | apply below_drew1) | exact HB.out)) hb); clear HB; have HB := n0_; clear n0_; (try clear hb); (try clear hb2); (try clear hk); (try clear hi)))
   go_ret
   exact ⟨by first | rfl | (simp [errW_none, errW_some] <;> rfl) | (simp [*, errW_none, errW_some] <;> rfl), by repeat (first | (with_reducible first | exact HB.out | apply below_alloc | apply pw_below_drewN | apply below_drew1) | exact HB.out)⟩
  ·rw [if_neg c7] at H
   exact absurd H (by simp)
 ·rw [if_neg c6] at H
  exact absurd H (by simp)

/-- THE ONE PURE STATEMENT of mapmakerlaw01_NumMulDivs: yours. -/
def mapmakerlaw01_NumMulDivs.Pure : Prop := ∀ (a0 : Int) (a1 : Int) (a2 : Int), (Lit.int .i64 a0).wf = true → (Lit.int .i64 a1).wf = true → (Lit.int .i64 a2).wf = true → ∃ k, mapmakerlaw01_NumMulDivs.f k a0 a1 a2 = some true
theorem mapmakerlaw01_NumMulDivs.walk (P : mapmakerlaw01_NumMulDivs.Pure) (a0 : Int) (a1 : Int) (a2 : Int) (w : World) (w0 : (Lit.int .i64 a0).wf = true) (w1 : (Lit.int .i64 a1).wf = true) (w2 : (Lit.int .i64 a2).wf = true) :
  Calls Try.prog 7 #[.int .i64 a0, .int .i64 a1, .int .i64 a2] w fun e w' => e = .returned (.bool true) ∧ Below w.heap.size w w' := by
 obtain ⟨k, h⟩ := P a0 a1 a2 w0 w1 w2
 refine (mapmakerlaw01_NumMulDivs.calls k a0 a1 a2 true w h).mono ?_
 rintro e w' ⟨rfl, hd⟩
 exact ⟨rfl, hd⟩

end Go.Proofs.Ytbjgcfbmifpepaa.PAll
