-- Written by a program of this session (wip/tools), over the words that print.sh lays. (slim)
import Derived.Test.YtffpomipmnlnjaaPAllx0
import Derived.Test.YtffpomipmnlnjaaPAllx1
import Derived.Test.YtffpomipmnlnjaaPAllx7
import Derived.Test.YtffpomipmnlnjaaPAllx8
import Derived.Test.YtffpomipmnlnjaaPAllx10
namespace Go.Proofs.Ytffpomipmnlnjaa.PAll
open Go.RowKit Go.Proofs.YtffpomipmnlnjaaW.PrintWords Go.Proofs.YtffpomipmnlnjaaW.PrintLast Go.Proofs.YtffpomipmnlnjaaW.PrintMore
attribute [local go_sem] max2_int min2_int max_two min_two max_three min_three max_four min_four   -- for this text's walks alone
set_option linter.unusedVariables false
set_option linter.unusedSimpArgs false
attribute [local irreducible] Calls

attribute [local go_sem high] eqA23
/-! ### mapmakerlaw10_HilbertPoints: function 4 -/
def mapmakerlaw10_HilbertPoints.f (k : Nat) (a0 : Int) : Option (Bool) := (hilbert_Point.f k a0).bind fun bt120 => ((mapmakerref10_Point.f k a0).bind fun bt122 => (if (bt120.1 == bt122.1 && (bt120.2 == bt122.2)) = true then ((mapmakerlaw10_lives.f k).bind fun t124 => (some t124)) else (none)))
theorem mapmakerlaw10_HilbertPoints.mono : ∀ a0 k, LeO (mapmakerlaw10_HilbertPoints.f k a0) (mapmakerlaw10_HilbertPoints.f (k + 1) a0) := by
 intro a0 k
 unfold mapmakerlaw10_HilbertPoints.f
 repeat' first
   | (with_reducible exact hilbert_Point.mono _ _)
   | (with_reducible exact mapmakerlaw10_lives.mono _)
   | (with_reducible exact mapmakerref10_Point.mono _ _)
   | (with_reducible exact LeO.refl _)
   | (with_reducible exact LeO.none _)
   | (with_reducible refine LeO.ite ?_ ?_)
   | (with_reducible refine LeO.bind ?_ (fun _ => ?_))
   | exact hilbert_Point.mono _ _
   | exact mapmakerlaw10_lives.mono _
   | exact mapmakerref10_Point.mono _ _
   | exact LeO.none _
   | refine LeO.ite ?_ ?_
   | refine LeO.bind ?_ (fun _ => ?_)
set_option maxHeartbeats 8000000 in
set_option maxRecDepth 100000 in
theorem mapmakerlaw10_HilbertPoints.calls (k : Nat) (a0 : Int) (r : Bool) (w : World) (h : mapmakerlaw10_HilbertPoints.f k a0 = some r) :
  Calls Try.prog 4 #[.int .i64 a0] w fun e w' => e = .returned (.bool r) ∧ Below w.heap.size w w' := by
 have HB := Aside0.mk (Below.refl w.heap.size w)
 have H : ((hilbert_Point.f k a0).bind fun bt120 => ((mapmakerref10_Point.f k a0).bind fun bt122 => (if (bt120.1 == bt122.1 && (bt120.2 == bt122.2)) = true then ((mapmakerlaw10_lives.f k).bind fun t124 => (some t124)) else (none)))) = some r := h
 clear h
 replace H := Option.bind_eq_some_iff.mp H
 obtain ⟨⟨t120, t121⟩, A20, H⟩ := H
 replace H : ((mapmakerref10_Point.f k a0).bind fun bt122 => (if (t120 == bt122.1 && (t121 == bt122.2)) = true then ((mapmakerlaw10_lives.f k).bind fun t124 => (some t124)) else (none))) = some r := H
 have A2 := Aside0.mk A20
 clear A20
 replace H := Option.bind_eq_some_iff.mp H
 obtain ⟨⟨t122, t123⟩, A30, H⟩ := H
 replace H : (if (t120 == t122 && (t121 == t123)) = true then ((mapmakerlaw10_lives.f k).bind fun t124 => (some t124)) else (none)) = some r := H
 have A3 := Aside0.mk A30
 clear A30
 by_cases c4 : (t120 == t122 && (t121 == t123)) = true
 ·rw [if_pos c4] at H
  have c4b0 : (t120 == t122 && (t121 == t123)) = true := c4
  (try (have c4b1 : decide (t120 = t122 && (t121 == t123)) = true := by simpa using c4))
  (try (have c4b2 : (t120 == t122 && (t121 == t123)) = true := by simpa using c4))
  clear c4
  replace H := Option.bind_eq_some_iff.mp H
  obtain ⟨t124, A50, H⟩ := H
  replace H : (some t124) = some r := H
  have A5 := Aside0.mk A50
  clear A50
  obtain rfl := Option.some.inj H
  go_enter Try.func4, Try.ntmps4
  go_wp2_with (first | ((with_reducible refine gate_callee (f := 11) rfl ?_); refine goesL_ (some 4) rfl rfl Try.func11 (by kernel_rfl) rfl #[.int .i64 a0] rfl (by (try simp only [List.map_toArray, List.map_cons, List.map_nil]); first | done | rfl | (simp only [List.length_drop, List.length_take]; rfl)) ?_; (with_reducible refine (hilbert_Point.calls k a0 t120 t121 _ A2.out).mono ?_); rintro e w6 ⟨rfl, hb⟩; refine ⟨_, rfl, ?_⟩; have n0_ := Aside0.mk (below_step (by repeat (first | (with_reducible first | exact HB.out | apply below_alloc | apply pw_below_drewN | apply below_drew1) | exact HB.out)) hb); clear HB; have HB := n0_; clear n0_; (try clear hb); (try clear hb2); (try clear hk); (try clear hi)) | ((with_reducible refine gate_callee (f := 12) rfl ?_); refine goesL_ (some 6) rfl rfl Try.func12 (by kernel_rfl) rfl #[.int .i64 a0] rfl (by (try simp only [List.map_toArray, List.map_cons, List.map_nil]); first | done | rfl | (simp only [List.length_drop, List.length_take]; rfl)) ?_; (with_reducible refine (mapmakerref10_Point.calls k a0 t122 t123 _ A3.out).mono ?_); rintro e w7 ⟨rfl, hb⟩; refine ⟨_, rfl, ?_⟩; have n0_ := Aside0.mk (below_step (by repeat (first | (with_reducible first | exact HB.out | apply below_alloc | apply pw_below_drewN | apply below_drew1) | exact HB.out)) hb); clear HB; have HB := n0_; clear n0_; (try clear hb); (try clear hb2); (try clear hk); (try clear hi)) | (go_at_call 10; (with_reducible refine (mapmakerlaw10_lives.calls k  t124 _ A5.out).mono ?_); rintro e w8 ⟨rfl, hb⟩; have n0_ := Aside0.mk (below_step (by repeat (first | (with_reducible first | exact HB.out | apply below_alloc | apply pw_below_drewN | apply below_drew1) | exact HB.out)) hb); clear HB; have HB := n0_; clear n0_; (try clear hb); (try clear hb2); (try clear hk); (try clear hi)))
  go_ret
  exact ⟨by first | rfl | (simp [errW_none, errW_some] <;> rfl) | (simp [*, errW_none, errW_some] <;> rfl), by repeat (first | (with_reducible first | exact HB.out | apply below_alloc | apply pw_below_drewN | apply below_drew1) | exact HB.out)⟩
 ·rw [if_neg c4] at H
  exact absurd H (by simp)

/-- THE ONE PURE STATEMENT of mapmakerlaw10_HilbertPoints: yours. -/
def mapmakerlaw10_HilbertPoints.Pure : Prop := ∀ (a0 : Int), (Lit.int .i64 a0).wf = true → ∃ k, mapmakerlaw10_HilbertPoints.f k a0 = some true
theorem mapmakerlaw10_HilbertPoints.walk (P : mapmakerlaw10_HilbertPoints.Pure) (a0 : Int) (w : World) (w0 : (Lit.int .i64 a0).wf = true) :
  Calls Try.prog 4 #[.int .i64 a0] w fun e w' => e = .returned (.bool true) ∧ Below w.heap.size w w' := by
 obtain ⟨k, h⟩ := P a0 w0
 refine (mapmakerlaw10_HilbertPoints.calls k a0 true w h).mono ?_
 rintro e w' ⟨rfl, hd⟩
 exact ⟨rfl, hd⟩

end Go.Proofs.Ytffpomipmnlnjaa.PAll
