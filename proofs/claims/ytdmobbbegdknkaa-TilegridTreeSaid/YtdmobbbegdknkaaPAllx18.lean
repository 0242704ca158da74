-- Written by a program of this session (wip/tools), over the words that print.sh lays. (slim)
import Derived.Test.YtdmobbbegdknkaaPAllx0
import Derived.Test.YtdmobbbegdknkaaPAllx3
import Derived.Test.YtdmobbbegdknkaaPAllx5
import Derived.Test.YtdmobbbegdknkaaPAllx9
import Derived.Test.YtdmobbbegdknkaaPAllx17
namespace Go.Proofs.Ytdmobbbegdknkaa.PAll
open Go.RowKit Go.Proofs.YtdmobbbegdknkaaW.PrintWords Go.Proofs.YtdmobbbegdknkaaW.PrintLast Go.Proofs.YtdmobbbegdknkaaW.PrintMore
attribute [local go_sem] max2_int min2_int max_two min_two max_three min_three max_four min_four   -- for this text's walks alone
set_option linter.unusedVariables false
set_option linter.unusedSimpArgs false
attribute [local irreducible] Calls

/-! ### mapmakerlaw28_lives: function 12 -/
def mapmakerlaw28_lives.f (k : Nat)  : Option (Bool) := (tilegrid_Cover.f k 16384 0 16384 0 1).bind fun t129 => ((tilegrid_ID.f k 1 0 0).bind fun t132 => (if t132 = 1 then ((tilegrid_ID.f k 2 0 0).bind fun t133 => (if t133 = 5 then ((mapmakerref28_Same.f k t129 (([(⟨1, 0, 0⟩ : S30), (⟨1, 1, 0⟩ : S30)] : List (S30)))).bind fun t137 => (if t137 = true then ((tilegrid_Size.f 7).bind fun t138 => (some (t138 == 256))) else (none))) else (none))) else (none)))
theorem mapmakerlaw28_lives.mono : ∀ k, LeO (mapmakerlaw28_lives.f k ) (mapmakerlaw28_lives.f (k + 1) ) := by
 intro  k
 unfold mapmakerlaw28_lives.f
 repeat' first
   | (with_reducible exact mapmakerref28_Same.mono _ _ _)
   | (with_reducible exact tilegrid_Cover.mono _ _ _ _ _ _)
   | (with_reducible exact tilegrid_ID.mono _ _ _ _)
   | (with_reducible exact LeO.refl _)
   | (with_reducible exact LeO.none _)
   | (with_reducible refine LeO.ite ?_ ?_)
   | (with_reducible refine LeO.bind ?_ (fun _ => ?_))
   | exact mapmakerref28_Same.mono _ _ _
   | exact tilegrid_Cover.mono _ _ _ _ _ _
   | exact tilegrid_ID.mono _ _ _ _
   | exact LeO.none _
   | refine LeO.ite ?_ ?_
   | refine LeO.bind ?_ (fun _ => ?_)
set_option maxHeartbeats 8000000 in
set_option maxRecDepth 100000 in
theorem mapmakerlaw28_lives.calls (k : Nat)  (r : Bool) (w : World) (h : mapmakerlaw28_lives.f k  = some r) :
  Calls Try.prog 12 #[] w fun e w' => e = .returned (.bool r) ∧ Below w.heap.size w w' := by
 have hu23 := Try.underlying23
 have hu30 := Try.underlying30
 have HB := Aside0.mk (Below.refl w.heap.size w)
 have H : ((tilegrid_Cover.f k 16384 0 16384 0 1).bind fun t129 => ((tilegrid_ID.f k 1 0 0).bind fun t132 => (if t132 = 1 then ((tilegrid_ID.f k 2 0 0).bind fun t133 => (if t133 = 5 then ((mapmakerref28_Same.f k t129 (([(⟨1, 0, 0⟩ : S30), (⟨1, 1, 0⟩ : S30)] : List (S30)))).bind fun t137 => (if t137 = true then ((tilegrid_Size.f 7).bind fun t138 => (some (t138 == 256))) else (none))) else (none))) else (none)))) = some r := h
 clear h
 replace H := Option.bind_eq_some_iff.mp H
 obtain ⟨t129, A10, H⟩ := H
 replace H : ((tilegrid_ID.f k 1 0 0).bind fun t132 => (if t132 = 1 then ((tilegrid_ID.f k 2 0 0).bind fun t133 => (if t133 = 5 then ((mapmakerref28_Same.f k t129 (([(⟨1, 0, 0⟩ : S30), (⟨1, 1, 0⟩ : S30)] : List (S30)))).bind fun t137 => (if t137 = true then ((tilegrid_Size.f 7).bind fun t138 => (some (t138 == 256))) else (none))) else (none))) else (none))) = some r := H
 have A1 := Aside0.mk A10
 clear A10
 replace H := Option.bind_eq_some_iff.mp H
 obtain ⟨t132, A20, H⟩ := H
 replace H : (if t132 = 1 then ((tilegrid_ID.f k 2 0 0).bind fun t133 => (if t133 = 5 then ((mapmakerref28_Same.f k t129 (([(⟨1, 0, 0⟩ : S30), (⟨1, 1, 0⟩ : S30)] : List (S30)))).bind fun t137 => (if t137 = true then ((tilegrid_Size.f 7).bind fun t138 => (some (t138 == 256))) else (none))) else (none))) else (none)) = some r := H
 have A2 := Aside0.mk A20
 clear A20
 by_cases c3 : t132 = 1
 ·rw [if_pos c3] at H
  have c3b0 : (t132 == 1) = true := beq_iff_eq.mpr c3
  have c3b1 : (t132 != 1) = false := bne_eq_false_iff_eq.mpr c3
  clear c3
  replace H := Option.bind_eq_some_iff.mp H
  obtain ⟨t133, A40, H⟩ := H
  replace H : (if t133 = 5 then ((mapmakerref28_Same.f k t129 (([(⟨1, 0, 0⟩ : S30), (⟨1, 1, 0⟩ : S30)] : List (S30)))).bind fun t137 => (if t137 = true then ((tilegrid_Size.f 7).bind fun t138 => (some (t138 == 256))) else (none))) else (none)) = some r := H
  have A4 := Aside0.mk A40
  clear A40
  by_cases c5 : t133 = 5
  ·rw [if_pos c5] at H
   have c5b0 : (t133 == 5) = true := beq_iff_eq.mpr c5
   have c5b1 : (t133 != 5) = false := bne_eq_false_iff_eq.mpr c5
   clear c5
   obtain ⟨y134, hy134⟩ : ∃ y_ : List (S30), y_ = (([(⟨1, 0, 0⟩ : S30), (⟨1, 1, 0⟩ : S30)] : List (S30))) := ⟨_, rfl⟩
   replace H : ((mapmakerref28_Same.f k t129 y134).bind fun t137 => (if t137 = true then ((tilegrid_Size.f 7).bind fun t138 => (some (t138 == 256))) else (none))) = some r := by first | (rw [hy134]; with_reducible exact H) | (have H2_ := (Option.bind_some _ _).symm.trans H; rw [hy134]; with_reducible exact H2_) | (have H2_ := (Option.bind_some _ _).symm.trans H; with_reducible exact H2_) | with_reducible exact H | (rw [hy134]; exact H) | exact H
   have Ny134 := Aside0.mk hy134
   clear hy134
   replace H := Option.bind_eq_some_iff.mp H
   obtain ⟨t137, A60, H⟩ := H
   replace H : (if t137 = true then ((tilegrid_Size.f 7).bind fun t138 => (some (t138 == 256))) else (none)) = some r := H
   have A6 := Aside0.mk A60
   clear A60
   by_cases c7 : t137 = true
   ·subst c7
    have H1 : ((tilegrid_Size.f 7).bind fun t138 => (some (t138 == 256))) = some r := by rw [if_pos rfl] at H; exact H
    clear H
    have H := H1
    clear H1
    replace H := Option.bind_eq_some_iff.mp H
    obtain ⟨t138, A80, H⟩ := H
    replace H : (some (t138 == 256)) = some r := H
    have A8 := Aside0.mk A80
    clear A80
    obtain rfl := Option.some.inj H
    go_enter Try.func12, Try.ntmps12
    go_wp2_with (first | ((with_reducible refine gate_callee (f := 10) rfl ?_); refine goesL_ (some 3) rfl rfl Try.func10 (by kernel_rfl) rfl #[.agg #[.int .i64 16384, .int .i64 0, .int .i64 16384, .int .i64 0], .int .i64 1] rfl (by (try simp only [List.map_toArray, List.map_cons, List.map_nil]); first | done | rfl | (simp only [List.length_drop, List.length_take]; rfl)) ?_; (with_reducible refine (tilegrid_Cover.calls k 16384 0 16384 0 1 t129 _ A1.out).mono ?_); rintro e w9 ⟨v130, rfl, ho0, hb⟩; refine ⟨_, rfl, ?_⟩; have n0_ := Aside0.mk (Kd.R_lower ho0 (below_size (by repeat (first | (with_reducible first | exact HB.out | apply below_alloc | apply pw_below_drewN | apply below_drew1) | exact HB.out)))); have n1_ := Aside0.mk (below_step (by repeat (first | (with_reducible first | exact HB.out | apply below_alloc | apply pw_below_drewN | apply below_drew1) | exact HB.out)) hb); clear HB; have HO131 := n0_; have HB := n1_; clear n0_ n1_; (try clear hb); (try clear hb2); (try clear hk); (try clear hi); (try clear ho0)) | ((with_reducible refine gate_callee (f := 21) rfl ?_); refine goesL_ (some 5) rfl rfl Try.func21 (by kernel_rfl) rfl #[.agg #[.int .i64 1, .int .i64 0, .int .i64 0]] rfl (by (try simp only [List.map_toArray, List.map_cons, List.map_nil]); first | done | rfl | (simp only [List.length_drop, List.length_take]; rfl)) ?_; (with_reducible refine (tilegrid_ID.calls k 1 0 0 t132 _ A2.out).mono ?_); rintro e w10 ⟨rfl, hb⟩; refine ⟨_, rfl, ?_⟩; have n0_ := Aside0.mk (Kd.R_below (by (with_reducible repeat (first | apply Kd.R_alloc | apply Kd.R_drewN | apply Kd.R_drew)); exact HO131.out) hb); have n1_ := Aside0.mk (below_step (by repeat (first | (with_reducible first | exact HB.out | apply below_alloc | apply pw_below_drewN | apply below_drew1) | exact HB.out)) hb); clear HO131; clear HB; have HO131 := n0_; have HB := n1_; clear n0_ n1_; (try clear hb); (try clear hb2); (try clear hk); (try clear hi)) | (go_at_call 21; (with_reducible refine (tilegrid_ID.calls k 2 0 0 t133 _ A4.out).mono ?_); rintro e w11 ⟨rfl, hb⟩; have n0_ := Aside0.mk (Kd.R_below (by (with_reducible repeat (first | apply Kd.R_alloc | apply Kd.R_drewN | apply Kd.R_drew)); exact HO131.out) hb); have n1_ := Aside0.mk (below_step (by repeat (first | (with_reducible first | exact HB.out | apply below_alloc | apply pw_below_drewN | apply below_drew1) | exact HB.out)) hb); clear HO131; clear HB; have HO131 := n0_; have HB := n1_; clear n0_ n1_; (try clear hb); (try clear hb2); (try clear hk); (try clear hi)) | ((with_reducible refine gate_dst (N := 16) rfl ?_); (try (refine gate_guard (by rfl) ?_; dsimp only)); refine Kd.R_lit k30 _ 30 ?hg (N := 16) ?hd (xs := ([(⟨1, 0, 0⟩ : S30), (⟨1, 1, 0⟩ : S30)] : List (S30))) (inner := [.int .i64 1, .int .i64 0, .int .i64 0, .int .i64 1, .int .i64 1, .int .i64 0]) (ok := fun _ => True) (okp := fun _ => True) ?hr ?hp (fun _ hk => hk) trivial (Below.refl _ _) (Nat.le_refl _) (by simp) ?_; (case hd => rfl); (case hg => rfl); (case hr => first | (go_simp; done) | (go_simp; rfl)); (case hp => exact (Reps.c3 (show Kd.M k30 _ _ _ (⟨1, 0, 0⟩ : S30) [.int .i64 1, .int .i64 0, .int .i64 0] from (k30_mkM _ _ _ (⟨1, 0, 0⟩ : S30) )) (Reps.c3 (show Kd.M k30 _ _ _ (⟨1, 1, 0⟩ : S30) [.int .i64 1, .int .i64 1, .int .i64 0] from (k30_mkM _ _ _ (⟨1, 1, 0⟩ : S30) )) (Reps.none _ _)))); intro v135 w12 ho13 hb hg_ hnew_; clear hg_ hnew_; (first | rw [← Ny134.out] at ho13 | (simp only [Int.reduceToNat] at ho13; rw [← Ny134.out] at ho13)); have n0_ := Aside0.mk (Kd.R_elder' (by (with_reducible repeat (first | apply Kd.R_alloc | apply Kd.R_drewN | apply Kd.R_drew)); exact HO131.out) (Kd.R_base ho13) hb); have n1_ := Aside0.mk (Kd.R_lower (Kd.R_new' ho13 (Kd.R_lt (by (with_reducible repeat (first | apply Kd.R_alloc | apply Kd.R_drewN | apply Kd.R_drew)); exact HO131.out))) (below_size (by repeat (first | (with_reducible first | exact HB.out | apply below_alloc | apply pw_below_drewN | apply below_drew1) | exact HB.out)))); have n2_ := Aside0.mk (below_step (by repeat (first | (with_reducible first | exact HB.out | apply below_alloc | apply pw_below_drewN | apply below_drew1) | exact HB.out)) hb); clear HO131; clear HB; have HO131 := n0_; have HO136 := n1_; have HB := n2_; clear n0_ n1_ n2_; clear hb ho13; obtain ⟨Ao14, co14, eo14⟩ := Kd.R_slice HO131.out; subst eo14; obtain ⟨Ao15, co15, eo15⟩ := Kd.R_slice HO136.out; subst eo15) | (go_at_call 9; (with_reducible refine (mapmakerref28_Same.calls k _ _ t129 _ _ y134 true _ ?side1 ?side2 ?side3 ?side4 A6.out).mono ?_); (case side1 => repeat (first | exact (Kd.R_reads' HO131.out).2.2 | (with_reducible refine Kd.C_alloc ?_ _) | (with_reducible refine Kd.C_drewN ?_ _) | (with_reducible refine Kd.C_drew ?_))); (case side2 => exact (Kd.R_reads' HO131.out).2.1); (case side3 => repeat (first | exact (Kd.R_reads' HO136.out).2.2 | (with_reducible refine Kd.C_alloc ?_ _) | (with_reducible refine Kd.C_drewN ?_ _) | (with_reducible refine Kd.C_drew ?_))); (case side4 => exact (Kd.R_reads' HO136.out).2.1); rintro e w' ⟨rfl, ⟨nd, rfl⟩⟩) | (go_at_call 19; (with_reducible refine (tilegrid_Size.calls 7 t138 _ A8.out).mono ?_); rintro e w' ⟨rfl, ⟨nd, rfl⟩⟩))
    go_ret
    exact ⟨by first | rfl | (simp [errW_none, errW_some] <;> rfl) | (simp [*, errW_none, errW_some] <;> rfl), by repeat (first | (with_reducible first | exact HB.out | apply below_alloc | apply pw_below_drewN | apply below_drew1) | exact HB.out)⟩
   ·replace c7 := Bool.eq_false_iff.mpr c7
    subst c7
    have H1 : (none) = some r := by rw [if_neg (show ¬ (false = true) by decide)] at H; exact H
    clear H
    have H := H1
    clear H1
    exact absurd H (by simp)
  ·rw [if_neg c5] at H
   exact absurd H (by simp)
 ·rw [if_neg c3] at H
  exact absurd H (by simp)

end Go.Proofs.Ytdmobbbegdknkaa.PAll
