-- Written by a program of this session (wip/tools), over the words that print.sh lays. (slim)
import Derived.Test.YtfmanlgfinlekaaPAllx0
import Derived.Test.YtfmanlgfinlekaaPAllx2
import Derived.Test.YtfmanlgfinlekaaPAllx3
import Derived.Test.YtfmanlgfinlekaaPAllx5
import Derived.Test.YtfmanlgfinlekaaPAllx8
import Derived.Test.YtfmanlgfinlekaaPAllx10
import Derived.Test.YtfmanlgfinlekaaPAllx12
namespace Go.Proofs.Ytfmanlgfinlekaa.PAll
open Go.RowKit Go.Proofs.YtfmanlgfinlekaaW.PrintWords Go.Proofs.YtfmanlgfinlekaaW.PrintLast Go.Proofs.YtfmanlgfinlekaaW.PrintMore
attribute [local go_sem] max2_int min2_int max_two min_two max_three min_three max_four min_four   -- for this text's walks alone
set_option linter.unusedVariables false
set_option linter.unusedSimpArgs false
attribute [local irreducible] Calls

/-! ### mapmakerlaw51_WordsFolds: function 3 -/
def mapmakerlaw51_WordsFolds.f (k : Nat) (a0 : ByteArray) : Option (Bool) := if (a0.size : Int) > 400 then ((mapmakerlaw51_lives.f k).bind fun t141 => (some t141)) else ((words_Fold.f k a0).bind fun t142 => ((mapmakerref51_Fold.f k a0).bind fun t143 => (if t142.toList = t143.toList then ((words_Split.f k a0).bind fun t144 => ((mapmakerref51_Split.f k a0).bind fun t147 => ((mapmakerref51_Same.f k t144 t147).bind fun t150 => (if t150 = true then ((mapmakerlaw51_lives.f k).bind fun t151 => (some t151)) else (none))))) else (none))))
theorem mapmakerlaw51_WordsFolds.mono : ∀ a0 k, LeO (mapmakerlaw51_WordsFolds.f k a0) (mapmakerlaw51_WordsFolds.f (k + 1) a0) := by
 intro a0 k
 unfold mapmakerlaw51_WordsFolds.f
 repeat' first
   | (with_reducible exact mapmakerlaw51_lives.mono _)
   | (with_reducible exact mapmakerref51_Fold.mono _ _)
   | (with_reducible exact mapmakerref51_Same.mono _ _ _)
   | (with_reducible exact mapmakerref51_Split.mono _ _)
   | (with_reducible exact words_Fold.mono _ _)
   | (with_reducible exact words_Split.mono _ _)
   | (with_reducible exact LeO.refl _)
   | (with_reducible exact LeO.none _)
   | (with_reducible refine LeO.ite ?_ ?_)
   | (with_reducible refine LeO.bind ?_ (fun _ => ?_))
   | exact mapmakerlaw51_lives.mono _
   | exact mapmakerref51_Fold.mono _ _
   | exact mapmakerref51_Same.mono _ _ _
   | exact mapmakerref51_Split.mono _ _
   | exact words_Fold.mono _ _
   | exact words_Split.mono _ _
   | exact LeO.none _
   | refine LeO.ite ?_ ?_
   | refine LeO.bind ?_ (fun _ => ?_)
set_option maxHeartbeats 8000000 in
set_option maxRecDepth 100000 in
theorem mapmakerlaw51_WordsFolds.calls (k : Nat) (a0 : ByteArray) (r : Bool) (w : World) (h : mapmakerlaw51_WordsFolds.f k a0 = some r) :
  Calls Try.prog 3 #[.string a0] w fun e w' => e = .returned (.bool r) ∧ Below w.heap.size w w' := by
 have HB := Aside0.mk (Below.refl w.heap.size w)
 have H : (if (a0.size : Int) > 400 then ((mapmakerlaw51_lives.f k).bind fun t141 => (some t141)) else ((words_Fold.f k a0).bind fun t142 => ((mapmakerref51_Fold.f k a0).bind fun t143 => (if t142.toList = t143.toList then ((words_Split.f k a0).bind fun t144 => ((mapmakerref51_Split.f k a0).bind fun t147 => ((mapmakerref51_Same.f k t144 t147).bind fun t150 => (if t150 = true then ((mapmakerlaw51_lives.f k).bind fun t151 => (some t151)) else (none))))) else (none))))) = some r := h
 clear h
 by_cases c2 : (a0.size : Int) > 400
 ·rw [if_pos c2] at H
  have c2b0 : decide (400 < (a0.size : Int)) = true := decide_eq_true c2
  have c2b1 : decide (400 < a0.size) = true := decide_eq_true (by omega)
  clear c2
  replace H := Option.bind_eq_some_iff.mp H
  obtain ⟨t141, A30, H⟩ := H
  replace H : (some t141) = some r := H
  have A3 := Aside0.mk A30
  clear A30
  obtain rfl := Option.some.inj H
  go_enter Try.func3, Try.ntmps3
  go_wp2_with (first | ((with_reducible refine gate_callee (f := 8) rfl ?_); refine goesL_ (some 6) rfl rfl Try.func8 (by kernel_rfl) rfl #[] rfl (by (try simp only [List.map_toArray, List.map_cons, List.map_nil]); first | done | rfl | (simp only [List.length_drop, List.length_take]; rfl)) ?_; (with_reducible refine (mapmakerlaw51_lives.calls k  t141 _ A3.out).mono ?_); rintro e w4 ⟨rfl, hb⟩; refine ⟨_, rfl, ?_⟩; have n0_ := Aside0.mk (below_step (by repeat (first | (with_reducible first | exact HB.out | apply below_alloc | apply pw_below_drewN | apply below_drew1) | exact HB.out)) hb); clear HB; have HB := n0_; clear n0_; (try clear hb); (try clear hb2); (try clear hk); (try clear hi)))
  go_ret
  exact ⟨by first | rfl | (simp [errW_none, errW_some] <;> rfl) | (simp [*, errW_none, errW_some] <;> rfl), by repeat (first | (with_reducible first | exact HB.out | apply below_alloc | apply pw_below_drewN | apply below_drew1) | exact HB.out)⟩
 ·rw [if_neg c2] at H
  have c2b0 : decide (400 < (a0.size : Int)) = false := decide_eq_false c2
  have c2b1 : decide (400 < a0.size) = false := decide_eq_false (by omega)
  clear c2
  replace H := Option.bind_eq_some_iff.mp H
  obtain ⟨t142, A50, H⟩ := H
  replace H : ((mapmakerref51_Fold.f k a0).bind fun t143 => (if t142.toList = t143.toList then ((words_Split.f k a0).bind fun t144 => ((mapmakerref51_Split.f k a0).bind fun t147 => ((mapmakerref51_Same.f k t144 t147).bind fun t150 => (if t150 = true then ((mapmakerlaw51_lives.f k).bind fun t151 => (some t151)) else (none))))) else (none))) = some r := H
  have A5 := Aside0.mk A50
  clear A50
  replace H := Option.bind_eq_some_iff.mp H
  obtain ⟨t143, A60, H⟩ := H
  replace H : (if t142.toList = t143.toList then ((words_Split.f k a0).bind fun t144 => ((mapmakerref51_Split.f k a0).bind fun t147 => ((mapmakerref51_Same.f k t144 t147).bind fun t150 => (if t150 = true then ((mapmakerlaw51_lives.f k).bind fun t151 => (some t151)) else (none))))) else (none)) = some r := H
  have A6 := Aside0.mk A60
  clear A60
  by_cases c7 : t142.toList = t143.toList
  ·rw [if_pos c7] at H
   have c7b0 : (t142.toList == t143.toList) = true := beq_iff_eq.mpr c7
   have c7b1 : (t142.toList != t143.toList) = false := bne_eq_false_iff_eq.mpr c7
   clear c7
   replace H := Option.bind_eq_some_iff.mp H
   obtain ⟨t144, A80, H⟩ := H
   replace H : ((mapmakerref51_Split.f k a0).bind fun t147 => ((mapmakerref51_Same.f k t144 t147).bind fun t150 => (if t150 = true then ((mapmakerlaw51_lives.f k).bind fun t151 => (some t151)) else (none)))) = some r := H
   have A8 := Aside0.mk A80
   clear A80
   replace H := Option.bind_eq_some_iff.mp H
   obtain ⟨t147, A90, H⟩ := H
   replace H : ((mapmakerref51_Same.f k t144 t147).bind fun t150 => (if t150 = true then ((mapmakerlaw51_lives.f k).bind fun t151 => (some t151)) else (none))) = some r := H
   have A9 := Aside0.mk A90
   clear A90
   replace H := Option.bind_eq_some_iff.mp H
   obtain ⟨t150, A100, H⟩ := H
   replace H : (if t150 = true then ((mapmakerlaw51_lives.f k).bind fun t151 => (some t151)) else (none)) = some r := H
   have A10 := Aside0.mk A100
   clear A100
   by_cases c11 : t150 = true
   ·subst c11
    have H1 : ((mapmakerlaw51_lives.f k).bind fun t151 => (some t151)) = some r := by rw [if_pos rfl] at H; exact H
    clear H
    have H := H1
    clear H1
    replace H := Option.bind_eq_some_iff.mp H
    obtain ⟨t151, A120, H⟩ := H
    replace H : (some t151) = some r := H
    have A12 := Aside0.mk A120
    clear A120
    obtain rfl := Option.some.inj H
    go_enter Try.func3, Try.ntmps3
    go_wp2_with (first | ((with_reducible refine gate_callee (f := 9) rfl ?_); refine goesL_ (some 8) rfl rfl Try.func9 (by kernel_rfl) rfl #[.string a0] rfl (by (try simp only [List.map_toArray, List.map_cons, List.map_nil]); first | done | rfl | (simp only [List.length_drop, List.length_take]; rfl)) ?_; (with_reducible refine (words_Fold.calls k a0 t142 _ A5.out).mono ?_); rintro e w13 ⟨rfl, hb⟩; refine ⟨_, rfl, ?_⟩; have n0_ := Aside0.mk (below_step (by repeat (first | (with_reducible first | exact HB.out | apply below_alloc | apply pw_below_drewN | apply below_drew1) | exact HB.out)) hb); clear HB; have HB := n0_; clear n0_; (try clear hb); (try clear hb2); (try clear hk); (try clear hi)) | ((with_reducible refine gate_callee (f := 10) rfl ?_); refine goesL_ (some 10) rfl rfl Try.func10 (by kernel_rfl) rfl #[.string a0] rfl (by (try simp only [List.map_toArray, List.map_cons, List.map_nil]); first | done | rfl | (simp only [List.length_drop, List.length_take]; rfl)) ?_; (with_reducible refine (mapmakerref51_Fold.calls k a0 t143 _ A6.out).mono ?_); rintro e w14 ⟨rfl, hb⟩; refine ⟨_, rfl, ?_⟩; have n0_ := Aside0.mk (below_step (by repeat (first | (with_reducible first | exact HB.out | apply below_alloc | apply pw_below_drewN | apply below_drew1) | exact HB.out)) hb); clear HB; have HB := n0_; clear n0_; (try clear hb); (try clear hb2); (try clear hk); (try clear hi)) | (go_at_call 12; (with_reducible refine (words_Split.calls k a0 t144 _ A8.out).mono ?_); rintro e w15 ⟨v145, rfl, ho0, hb⟩; have n0_ := Aside0.mk (Kd.R_lower ho0 (below_size (by repeat (first | (with_reducible first | exact HB.out | apply below_alloc | apply pw_below_drewN | apply below_drew1) | exact HB.out)))); have n1_ := Aside0.mk (below_step (by repeat (first | (with_reducible first | exact HB.out | apply below_alloc | apply pw_below_drewN | apply below_drew1) | exact HB.out)) hb); clear HB; have HO146 := n0_; have HB := n1_; clear n0_ n1_; (try clear hb); (try clear hb2); (try clear hk); (try clear hi); (try clear ho0)) | (go_at_call 13; (with_reducible refine (mapmakerref51_Split.calls k a0 t147 _ A9.out).mono ?_); rintro e w16 ⟨v148, rfl, ho0, hb⟩; have n0_ := Aside0.mk (Kd.R_elder' (by (with_reducible repeat (first | apply Kd.R_alloc | apply Kd.R_drewN | apply Kd.R_drew)); exact HO146.out) (Kd.R_base ho0) hb); have n1_ := Aside0.mk (Kd.R_lower (Kd.R_new' ho0 (Kd.R_lt (by (with_reducible repeat (first | apply Kd.R_alloc | apply Kd.R_drewN | apply Kd.R_drew)); exact HO146.out))) (below_size (by repeat (first | (with_reducible first | exact HB.out | apply below_alloc | apply pw_below_drewN | apply below_drew1) | exact HB.out)))); have n2_ := Aside0.mk (below_step (by repeat (first | (with_reducible first | exact HB.out | apply below_alloc | apply pw_below_drewN | apply below_drew1) | exact HB.out)) hb); clear HO146; clear HB; have HO146 := n0_; have HO149 := n1_; have HB := n2_; clear n0_ n1_ n2_; (try clear hb); (try clear hb2); (try clear hk); (try clear hi); (try clear ho0); obtain ⟨Ao17, co17, eo17⟩ := Kd.R_slice HO146.out; subst eo17; obtain ⟨Ao18, co18, eo18⟩ := Kd.R_slice HO149.out; subst eo18) | (go_at_call 11; (with_reducible refine (mapmakerref51_Same.calls k _ _ t144 _ _ t147 true _ ?side1 ?side2 ?side3 ?side4 A10.out).mono ?_); (case side1 => repeat (first | exact (Kd.R_reads' HO146.out).2.2 | (with_reducible refine Kd.C_alloc ?_ _) | (with_reducible refine Kd.C_drewN ?_ _) | (with_reducible refine Kd.C_drew ?_))); (case side2 => exact (Kd.R_reads' HO146.out).2.1); (case side3 => repeat (first | exact (Kd.R_reads' HO149.out).2.2 | (with_reducible refine Kd.C_alloc ?_ _) | (with_reducible refine Kd.C_drewN ?_ _) | (with_reducible refine Kd.C_drew ?_))); (case side4 => exact (Kd.R_reads' HO149.out).2.1); rintro e w' ⟨rfl, ⟨nd, rfl⟩⟩) | (go_at_call 8; (with_reducible refine (mapmakerlaw51_lives.calls k  t151 _ A12.out).mono ?_); rintro e w19 ⟨rfl, hb⟩; have n0_ := Aside0.mk (Kd.R_below (by (with_reducible repeat (first | apply Kd.R_alloc | apply Kd.R_drewN | apply Kd.R_drew)); exact HO146.out) hb); have n1_ := Aside0.mk (Kd.R_below (by (with_reducible repeat (first | apply Kd.R_alloc | apply Kd.R_drewN | apply Kd.R_drew)); exact HO149.out) hb); have n2_ := Aside0.mk (below_step (by repeat (first | (with_reducible first | exact HB.out | apply below_alloc | apply pw_below_drewN | apply below_drew1) | exact HB.out)) hb); clear HO146; clear HO149; clear HB; have HO146 := n0_; have HO149 := n1_; have HB := n2_; clear n0_ n1_ n2_; (try clear hb); (try clear hb2); (try clear hk); (try clear hi)))
    go_ret
    exact ⟨by first | rfl | (simp [errW_none, errW_some] <;> rfl) | (simp [*, errW_none, errW_some] <;> rfl), by repeat (first | (with_reducible first | exact HB.out | apply below_alloc | apply pw_below_drewN | apply below_drew1) | exact HB.out)⟩
   ·replace c11 := Bool.eq_false_iff.mpr c11
    subst c11
    have H1 : (none) = some r := by rw [if_neg (show ¬ (false = true) by decide)] at H; exact H
    clear H
    have H := H1
    clear H1
    exact absurd H (by simp)
  ·rw [if_neg c7] at H
   exact absurd H (by simp)

/-- THE ONE PURE STATEMENT of mapmakerlaw51_WordsFolds: yours. -/
def mapmakerlaw51_WordsFolds.Pure : Prop := ∀ (a0 : ByteArray), a0.size ≤ 140737488351232 → ∃ k, mapmakerlaw51_WordsFolds.f k a0 = some true
theorem mapmakerlaw51_WordsFolds.walk (P : mapmakerlaw51_WordsFolds.Pure) (a0 : ByteArray) (w : World) (w0 : a0.size ≤ 140737488351232) :
  Calls Try.prog 3 #[.string a0] w fun e w' => e = .returned (.bool true) ∧ Below w.heap.size w w' := by
 obtain ⟨k, h⟩ := P a0 w0
 refine (mapmakerlaw51_WordsFolds.calls k a0 true w h).mono ?_
 rintro e w' ⟨rfl, hd⟩
 exact ⟨rfl, hd⟩

end Go.Proofs.Ytfmanlgfinlekaa.PAll
