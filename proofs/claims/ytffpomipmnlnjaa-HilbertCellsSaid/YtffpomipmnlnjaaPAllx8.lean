-- Written by a program of this session (wip/tools), over the words that print.sh lays. (slim)
import Derived.Test.YtffpomipmnlnjaaPAllx0
import Derived.Test.YtffpomipmnlnjaaPAllx1
import Derived.Test.YtffpomipmnlnjaaPAllx4
import Derived.Test.YtffpomipmnlnjaaPAllx7
namespace Go.Proofs.Ytffpomipmnlnjaa.PAll
open Go.RowKit Go.Proofs.YtffpomipmnlnjaaW.PrintWords Go.Proofs.YtffpomipmnlnjaaW.PrintLast Go.Proofs.YtffpomipmnlnjaaW.PrintMore
attribute [local go_sem] max2_int min2_int max_two min_two max_three min_three max_four min_four   -- for this text's walks alone
set_option linter.unusedVariables false
set_option linter.unusedSimpArgs false
attribute [local irreducible] Calls

attribute [local go_sem high] eqA23
/-! ### mapmakerlaw10_lives: function 10 -/
def mapmakerlaw10_lives.f (k : Nat)  : Option (Bool) := (hilbert_Index.f k 32767 0).bind fun t106 => (if t106 = 1073741823 then ((hilbert_Index.f k 1 1).bind fun t107 => (if t107 = 2 then ((hilbert_Point.f k 1).bind fun bt108 => (if (bt108.1 == 0 && (bt108.2 == 1)) = true then ((hilbert_Point.f k 3).bind fun bt110 => (if (bt110.1 == 1 && (bt110.2 == 0)) = true then ((hilbert_Point.f k (-1)).bind fun bt112 => (some (bt112.1 == (-1) && (bt112.2 == (-1))))) else (none))) else (none))) else (none))) else (none))
theorem mapmakerlaw10_lives.mono : ∀ k, LeO (mapmakerlaw10_lives.f k ) (mapmakerlaw10_lives.f (k + 1) ) := by
 intro  k
 unfold mapmakerlaw10_lives.f
 repeat' first
   | (with_reducible exact hilbert_Index.mono _ _ _)
   | (with_reducible exact hilbert_Point.mono _ _)
   | (with_reducible exact LeO.refl _)
   | (with_reducible exact LeO.none _)
   | (with_reducible refine LeO.ite ?_ ?_)
   | (with_reducible refine LeO.bind ?_ (fun _ => ?_))
   | exact hilbert_Index.mono _ _ _
   | exact hilbert_Point.mono _ _
   | exact LeO.none _
   | refine LeO.ite ?_ ?_
   | refine LeO.bind ?_ (fun _ => ?_)
set_option maxHeartbeats 8000000 in
set_option maxRecDepth 100000 in
theorem mapmakerlaw10_lives.calls (k : Nat)  (r : Bool) (w : World) (h : mapmakerlaw10_lives.f k  = some r) :
  Calls Try.prog 10 #[] w fun e w' => e = .returned (.bool r) ∧ Below w.heap.size w w' := by
 have hu23 := Try.underlying23
 have HB := Aside0.mk (Below.refl w.heap.size w)
 have H : ((hilbert_Index.f k 32767 0).bind fun t106 => (if t106 = 1073741823 then ((hilbert_Index.f k 1 1).bind fun t107 => (if t107 = 2 then ((hilbert_Point.f k 1).bind fun bt108 => (if (bt108.1 == 0 && (bt108.2 == 1)) = true then ((hilbert_Point.f k 3).bind fun bt110 => (if (bt110.1 == 1 && (bt110.2 == 0)) = true then ((hilbert_Point.f k (-1)).bind fun bt112 => (some (bt112.1 == (-1) && (bt112.2 == (-1))))) else (none))) else (none))) else (none))) else (none))) = some r := h
 clear h
 replace H := Option.bind_eq_some_iff.mp H
 obtain ⟨t106, A10, H⟩ := H
 replace H : (if t106 = 1073741823 then ((hilbert_Index.f k 1 1).bind fun t107 => (if t107 = 2 then ((hilbert_Point.f k 1).bind fun bt108 => (if (bt108.1 == 0 && (bt108.2 == 1)) = true then ((hilbert_Point.f k 3).bind fun bt110 => (if (bt110.1 == 1 && (bt110.2 == 0)) = true then ((hilbert_Point.f k (-1)).bind fun bt112 => (some (bt112.1 == (-1) && (bt112.2 == (-1))))) else (none))) else (none))) else (none))) else (none)) = some r := H
 have A1 := Aside0.mk A10
 clear A10
 by_cases c2 : t106 = 1073741823
 ·rw [if_pos c2] at H
  have c2b0 : (t106 == 1073741823) = true := beq_iff_eq.mpr c2
  have c2b1 : (t106 != 1073741823) = false := bne_eq_false_iff_eq.mpr c2
  clear c2
  replace H := Option.bind_eq_some_iff.mp H
  obtain ⟨t107, A30, H⟩ := H
  replace H : (if t107 = 2 then ((hilbert_Point.f k 1).bind fun bt108 => (if (bt108.1 == 0 && (bt108.2 == 1)) = true then ((hilbert_Point.f k 3).bind fun bt110 => (if (bt110.1 == 1 && (bt110.2 == 0)) = true then ((hilbert_Point.f k (-1)).bind fun bt112 => (some (bt112.1 == (-1) && (bt112.2 == (-1))))) else (none))) else (none))) else (none)) = some r := H
  have A3 := Aside0.mk A30
  clear A30
  by_cases c4 : t107 = 2
  ·rw [if_pos c4] at H
   have c4b0 : (t107 == 2) = true := beq_iff_eq.mpr c4
   have c4b1 : (t107 != 2) = false := bne_eq_false_iff_eq.mpr c4
   clear c4
   replace H := Option.bind_eq_some_iff.mp H
   obtain ⟨⟨t108, t109⟩, A50, H⟩ := H
   replace H : (if (t108 == 0 && (t109 == 1)) = true then ((hilbert_Point.f k 3).bind fun bt110 => (if (bt110.1 == 1 && (bt110.2 == 0)) = true then ((hilbert_Point.f k (-1)).bind fun bt112 => (some (bt112.1 == (-1) && (bt112.2 == (-1))))) else (none))) else (none)) = some r := H
   have A5 := Aside0.mk A50
   clear A50
   by_cases c6 : (t108 == 0 && (t109 == 1)) = true
   ·rw [if_pos c6] at H
    have c6b0 : (t108 == 0 && (t109 == 1)) = true := c6
    (try (have c6b1 : decide (t108 = 0 && (t109 == 1)) = true := by simpa using c6))
    (try (have c6b2 : (t108 == 0 && (t109 == 1)) = true := by simpa using c6))
    clear c6
    replace H := Option.bind_eq_some_iff.mp H
    obtain ⟨⟨t110, t111⟩, A70, H⟩ := H
    replace H : (if (t110 == 1 && (t111 == 0)) = true then ((hilbert_Point.f k (-1)).bind fun bt112 => (some (bt112.1 == (-1) && (bt112.2 == (-1))))) else (none)) = some r := H
    have A7 := Aside0.mk A70
    clear A70
    by_cases c8 : (t110 == 1 && (t111 == 0)) = true
    ·rw [if_pos c8] at H
     have c8b0 : (t110 == 1 && (t111 == 0)) = true := c8
     (try (have c8b1 : decide (t110 = 1 && (t111 == 0)) = true := by simpa using c8))
     (try (have c8b2 : (t110 == 1 && (t111 == 0)) = true := by simpa using c8))
     clear c8
     replace H := Option.bind_eq_some_iff.mp H
     obtain ⟨⟨t112, t113⟩, A90, H⟩ := H
     replace H : (some (t112 == (-1) && (t113 == (-1)))) = some r := H
     have A9 := Aside0.mk A90
     clear A90
     obtain rfl := Option.some.inj H
     go_enter Try.func10, Try.ntmps10
     go_wp2_with (first | ((with_reducible refine gate_callee (f := 8) rfl ?_); refine goesL_ (some 2) rfl rfl Try.func8 (by kernel_rfl) rfl #[.agg #[.int .i64 32767, .int .i64 0]] rfl (by (try simp only [List.map_toArray, List.map_cons, List.map_nil]); first | done | rfl | (simp only [List.length_drop, List.length_take]; rfl)) ?_; (with_reducible refine (hilbert_Index.calls k 32767 0 t106 _ A1.out).mono ?_); rintro e w10 ⟨rfl, hb⟩; refine ⟨_, rfl, ?_⟩; have n0_ := Aside0.mk (below_step (by repeat (first | (with_reducible first | exact HB.out | apply below_alloc | apply pw_below_drewN | apply below_drew1) | exact HB.out)) hb); clear HB; have HB := n0_; clear n0_; (try clear hb); (try clear hb2); (try clear hk); (try clear hi)) | (go_at_call 8; (with_reducible refine (hilbert_Index.calls k 1 1 t107 _ A3.out).mono ?_); rintro e w11 ⟨rfl, hb⟩; have n0_ := Aside0.mk (below_step (by repeat (first | (with_reducible first | exact HB.out | apply below_alloc | apply pw_below_drewN | apply below_drew1) | exact HB.out)) hb); clear HB; have HB := n0_; clear n0_; (try clear hb); (try clear hb2); (try clear hk); (try clear hi)) | (go_at_call 11; (with_reducible refine (hilbert_Point.calls k 1 t108 t109 _ A5.out).mono ?_); rintro e w12 ⟨rfl, hb⟩; have n0_ := Aside0.mk (below_step (by repeat (first | (with_reducible first | exact HB.out | apply below_alloc | apply pw_below_drewN | apply below_drew1) | exact HB.out)) hb); clear HB; have HB := n0_; clear n0_; (try clear hb); (try clear hb2); (try clear hk); (try clear hi)) | (go_at_call 11; (with_reducible refine (hilbert_Point.calls k 3 t110 t111 _ A7.out).mono ?_); rintro e w13 ⟨rfl, hb⟩; have n0_ := Aside0.mk (below_step (by repeat (first | (with_reducible first | exact HB.out | apply below_alloc | apply pw_below_drewN | apply below_drew1) | exact HB.out)) hb); clear HB; have HB := n0_; clear n0_; (try clear hb); (try clear hb2); (try clear hk); (try clear hi)) | (go_at_call 11; (with_reducible refine (hilbert_Point.calls k (-1) t112 t113 _ A9.out).mono ?_); rintro e w14 ⟨rfl, hb⟩; have n0_ := Aside0.mk (below_step (by repeat (first | (with_reducible first | exact HB.out | apply below_alloc | apply pw_below_drewN | apply below_drew1) | exact HB.out)) hb); clear HB; have HB := n0_; clear n0_; (try clear hb); (try clear hb2); (try clear hk); (try clear hi)))
     go_ret
     exact ⟨by first | rfl | (simp [errW_none, errW_some] <;> rfl) | (simp [*, errW_none, errW_some] <;> rfl), by repeat (first | (with_reducible first | exact HB.out | apply below_alloc | apply pw_below_drewN | apply below_drew1) | exact HB.out)⟩
    ·rw [if_neg c8] at H
     exact absurd H (by simp)
   ·rw [if_neg c6] at H
    exact absurd H (by simp)
  ·rw [if_neg c4] at H
   exact absurd H (by simp)
 ·rw [if_neg c2] at H
  exact absurd H (by simp)

end Go.Proofs.Ytffpomipmnlnjaa.PAll
