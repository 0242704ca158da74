-- Written by a program of this session (wip/tools), over the words that print.sh lays.
import Derived.Test.YtbjgcfbmifpepaaPAllx0
import Derived.Test.YtbjgcfbmifpepaaPAllx3
import Derived.Test.YtbjgcfbmifpepaaPAllx4
import Derived.Test.YtbjgcfbmifpepaaPAllx12
import Derived.Test.YtbjgcfbmifpepaaPAllx14
namespace Go.Proofs.Ytbjgcfbmifpepaa.PAll
open Go.RowKit Go.Proofs.YtbjgcfbmifpepaaW.PrintWords Go.Proofs.YtbjgcfbmifpepaaW.PrintLast Go.Proofs.YtbjgcfbmifpepaaW.PrintMore
attribute [local go_sem] max2_int min2_int max_two min_two max_three min_three max_four min_four   -- for this text's walks alone
set_option linter.unusedVariables false
set_option linter.unusedSimpArgs false
attribute [local irreducible] Calls

/-! ### mapmakerlaw01_NumQuotients: function 10 -/
def mapmakerlaw01_NumQuotients.j0 : Nat → Int → Int → Int → Int → Bool → Option (Bool)
 | 0, _, _, _, _, _ => none
 | k + 1, x0, x1, x5, x6, x38 => if x38 = true then ((num_MulDiv.f k x0 1 x1).bind fun bt181 => ((num_RoundDiv.f k x0 x1).bind fun t183 => (if x5 = (wrap64 (x6 - 1)) then (if bt181.2 = true then (if bt181.1 = x5 then (if t183 = x5 then ((mapmakerlaw01_lives.f k).bind fun t184 => (some t184)) else (if (wrap64 (t183 - 1)) = x5 then ((mapmakerlaw01_lives.f k).bind fun t185 => (some t185)) else (none))) else (none)) else (none)) else (none)))) else ((num_MulDiv.f k x0 1 x1).bind fun bt186 => ((num_RoundDiv.f k x0 x1).bind fun t188 => (if x5 = x6 then (if bt186.2 = true then (if bt186.1 = x5 then (if t188 = x5 then ((mapmakerlaw01_lives.f k).bind fun t189 => (some t189)) else (if (wrap64 (t188 - 1)) = x5 then ((mapmakerlaw01_lives.f k).bind fun t190 => (some t190)) else (none))) else (none)) else (none)) else (none))))
def mapmakerlaw01_NumQuotients.f (k : Nat) (a0 : Int) (a1 : Int) : Option (Bool) := if a1 ≤ 0 then ((num_FloorDiv.f a0 a1).bind fun t177 => (if t177 = 0 then ((num_RoundDiv.f k a0 a1).bind fun t178 => (if t178 = 0 then ((mapmakerlaw01_lives.f k).bind fun t179 => (some t179)) else (none))) else (none))) else ((num_FloorDiv.f a0 a1).bind fun t180 => (if a1 = 0 then (none) else (if a0 < 0 then (mapmakerlaw01_NumQuotients.j0 k a0 a1 t180 (wrap64 (Int.tdiv a0 a1)) ((Int.tmod a0 a1) != 0)) else (mapmakerlaw01_NumQuotients.j0 k a0 a1 t180 (wrap64 (Int.tdiv a0 a1)) false))))
theorem mapmakerlaw01_NumQuotients.mono_l : ∀ k, (∀ y0 y1 y2 y3 y4, LeO (mapmakerlaw01_NumQuotients.j0 k y0 y1 y2 y3 y4) (mapmakerlaw01_NumQuotients.j0 (k + 1) y0 y1 y2 y3 y4))
 | 0 => fun _ _ _ _ _ r h => by simp [mapmakerlaw01_NumQuotients.j0] at h
 | k + 1 => by
  have ih0 := mapmakerlaw01_NumQuotients.mono_l k
  ·intro y0 y1 y2 y3 y4
   unfold mapmakerlaw01_NumQuotients.j0
   repeat' first
   | (with_reducible exact ih0 _ _ _ _ _)
   | (with_reducible exact mapmakerlaw01_lives.mono _)
   | (with_reducible exact num_MulDiv.mono _ _ _ _)
   | (with_reducible exact num_RoundDiv.mono _ _ _)
   | (with_reducible exact LeO.refl _)
   | (with_reducible exact LeO.none _)
   | (with_reducible refine LeO.ite ?_ ?_)
   | (with_reducible refine LeO.bind ?_ (fun _ => ?_))
   | exact ih0 _ _ _ _ _
   | exact mapmakerlaw01_lives.mono _
   | exact num_MulDiv.mono _ _ _ _
   | exact num_RoundDiv.mono _ _ _
   | exact LeO.none _
   | refine LeO.ite ?_ ?_
   | refine LeO.bind ?_ (fun _ => ?_)
theorem mapmakerlaw01_NumQuotients.mono : ∀ a0 a1 k, LeO (mapmakerlaw01_NumQuotients.f k a0 a1) (mapmakerlaw01_NumQuotients.f (k + 1) a0 a1) := by
 intro a0 a1 k
 have ih0 := mapmakerlaw01_NumQuotients.mono_l k
 unfold mapmakerlaw01_NumQuotients.f
 repeat' first
   | (with_reducible exact ih0 _ _ _ _ _)
   | (with_reducible exact mapmakerlaw01_lives.mono _)
   | (with_reducible exact num_MulDiv.mono _ _ _ _)
   | (with_reducible exact num_RoundDiv.mono _ _ _)
   | (with_reducible exact LeO.refl _)
   | (with_reducible exact LeO.none _)
   | (with_reducible refine LeO.ite ?_ ?_)
   | (with_reducible refine LeO.bind ?_ (fun _ => ?_))
   | exact ih0 _ _ _ _ _
   | exact mapmakerlaw01_lives.mono _
   | exact num_MulDiv.mono _ _ _ _
   | exact num_RoundDiv.mono _ _ _
   | exact LeO.none _
   | refine LeO.ite ?_ ?_
   | refine LeO.bind ?_ (fun _ => ?_)
set_option maxHeartbeats 8000000 in
set_option maxRecDepth 100000 in
theorem mapmakerlaw01_NumQuotients.calls (k : Nat) (a0 : Int) (a1 : Int) (r : Bool) (w : World) (h : mapmakerlaw01_NumQuotients.f k a0 a1 = some r) :
  Calls Try.prog 10 #[.int .i64 a0, .int .i64 a1] w fun e w' => e = .returned (.bool r) ∧ Below w.heap.size w w' := by
 have HB := Aside0.mk (Below.refl w.heap.size w)
 have H : (if a1 ≤ 0 then ((num_FloorDiv.f a0 a1).bind fun t177 => (if t177 = 0 then ((num_RoundDiv.f k a0 a1).bind fun t178 => (if t178 = 0 then ((mapmakerlaw01_lives.f k).bind fun t179 => (some t179)) else (none))) else (none))) else ((num_FloorDiv.f a0 a1).bind fun t180 => (if a1 = 0 then (none) else (if a0 < 0 then (mapmakerlaw01_NumQuotients.j0 k a0 a1 t180 (wrap64 (Int.tdiv a0 a1)) ((Int.tmod a0 a1) != 0)) else (mapmakerlaw01_NumQuotients.j0 k a0 a1 t180 (wrap64 (Int.tdiv a0 a1)) false))))) = some r := h
 clear h
 by_cases c3 : a1 ≤ 0
 ·rw [if_pos c3] at H
  have c3b0 : decide (a1 ≤ 0) = true := decide_eq_true c3
  clear c3
  replace H := Option.bind_eq_some_iff.mp H
  obtain ⟨t177, A40, H⟩ := H
  replace H : (if t177 = 0 then ((num_RoundDiv.f k a0 a1).bind fun t178 => (if t178 = 0 then ((mapmakerlaw01_lives.f k).bind fun t179 => (some t179)) else (none))) else (none)) = some r := H
  have A4 := Aside0.mk A40
  clear A40
  by_cases c5 : t177 = 0
  ·rw [if_pos c5] at H
   have c5b0 : (t177 == 0) = true := beq_iff_eq.mpr c5
   have c5b1 : (t177 != 0) = false := bne_eq_false_iff_eq.mpr c5
   clear c5
   replace H := Option.bind_eq_some_iff.mp H
   obtain ⟨t178, A60, H⟩ := H
   replace H : (if t178 = 0 then ((mapmakerlaw01_lives.f k).bind fun t179 => (some t179)) else (none)) = some r := H
   have A6 := Aside0.mk A60
   clear A60
   by_cases c7 : t178 = 0
   ·rw [if_pos c7] at H
    have c7b0 : (t178 == 0) = true := beq_iff_eq.mpr c7
    have c7b1 : (t178 != 0) = false := bne_eq_false_iff_eq.mpr c7
    clear c7
    replace H := Option.bind_eq_some_iff.mp H
    obtain ⟨t179, A80, H⟩ := H
    replace H : (some t179) = some r := H
    have A8 := Aside0.mk A80
    clear A80
    obtain rfl := Option.some.inj H
    go_enter Try.func10, Try.ntmps10
    go_wp2_with (first | ((with_reducible refine gate_callee (f := 14) rfl ?_); refine goesL_ (some 14) rfl rfl Try.func14 (by kernel_rfl) rfl #[.int .i64 a0, .int .i64 a1] rfl (by (try simp only [List.map_toArray, List.map_cons, List.map_nil]); first | done | rfl | (simp only [List.length_drop, List.length_take]; rfl)) ?_; (with_reducible refine (num_FloorDiv.calls a0 a1 t177 _ A4.out).mono ?_); rintro e w' ⟨rfl, ⟨nd, rfl⟩⟩; refine ⟨_, rfl, ?_⟩) | (go_at_call 16; (with_reducible refine (num_RoundDiv.calls k a0 a1 t178 _ A6.out).mono ?_); rintro e w' ⟨rfl, ⟨nd, rfl⟩⟩) | (go_at_call 13; (with_reducible refine (mapmakerlaw01_lives.calls k  t179 _ A8.out).mono ?_); rintro e w9 ⟨rfl, hb⟩; have n0_ := Aside0.mk (below_step (by repeat (first | (with_reducible first | exact HB.out | apply below_alloc | apply pw_below_drewN | apply below_drew1) | exact HB.out)) hb); clear HB; have HB := n0_; clear n0_; (try clear hb); (try clear hb2); (try clear hk); (try clear hi)))
    go_ret
    exact ⟨by first | rfl | (simp [errW_none, errW_some] <;> rfl) | (simp [*, errW_none, errW_some] <;> rfl), by repeat (first | (with_reducible first | exact HB.out | apply below_alloc | apply pw_below_drewN | apply below_drew1) | exact HB.out)⟩
   ·rw [if_neg c7] at H
    exact absurd H (by simp)
  ·rw [if_neg c5] at H
   exact absurd H (by simp)
 ·rw [if_neg c3] at H
  have c3b0 : decide (a1 ≤ 0) = false := decide_eq_false c3
  clear c3
  replace H := Option.bind_eq_some_iff.mp H
  obtain ⟨t180, A100, H⟩ := H
  replace H : (if a1 = 0 then (none) else (if a0 < 0 then (mapmakerlaw01_NumQuotients.j0 k a0 a1 t180 (wrap64 (Int.tdiv a0 a1)) ((Int.tmod a0 a1) != 0)) else (mapmakerlaw01_NumQuotients.j0 k a0 a1 t180 (wrap64 (Int.tdiv a0 a1)) false))) = some r := H
  have A10 := Aside0.mk A100
  clear A100
  by_cases c11 : a1 = 0
  ·rw [if_pos c11] at H
   exact absurd H (by simp)
  ·rw [if_neg c11] at H
   have c11b0 : (a1 == 0) = false := beq_eq_false_iff_ne.mpr c11
   have c11b1 : (a1 != 0) = true := bne_iff_ne.mpr c11
   have HC12 := Aside0.mk H
   clear H
   go_enter Try.func10, Try.ntmps10
   go_upto_region 5 with (first | ((with_reducible refine gate_callee (f := 14) rfl ?_); refine goesL_ (some 27) rfl rfl Try.func14 (by kernel_rfl) rfl #[.int .i64 a0, .int .i64 a1] rfl (by (try simp only [List.map_toArray, List.map_cons, List.map_nil]); first | done | rfl | (simp only [List.length_drop, List.length_take]; rfl)) ?_; (with_reducible refine (num_FloorDiv.calls a0 a1 t180 _ A10.out).mono ?_); rintro e w' ⟨rfl, ⟨nd, rfl⟩⟩; refine ⟨_, rfl, ?_⟩))
   (try simp only [Act.put, List.setIfInBounds_toArray, List.set_cons_zero, List.set_cons_succ])
   go_cut [38] (fun v38 wc => ∃ (kq : Nat) (x38_11 : Bool), v38 = .bool x38_11 ∧ Aside0 (mapmakerlaw01_NumQuotients.j0 kq a0 a1 t180 (wrap64 (Int.tdiv a0 a1)) x38_11 = some r) ∧ Aside0 (kq ≤ k) ∧ Aside0 (Below w.heap.size w wc))
   case first =>
    have H := HC12.out
    clear HC12
    by_cases c13 : a0 < 0
    ·rw [if_pos c13] at H
     have c13b0 : decide (a0 < 0) = true := decide_eq_true c13
     clear c13
     (first | rw [c13b0] | (simp only [i64_w, i32_w]; rw [c13b0]) | skip)
     have H' := Aside0.mk H
     clear H
     go_wp2
     go_meet
     case rel => exact ⟨_, (((Int.tmod a0 a1) != 0)), (by first | rfl | (simp; done) | (simp [*]; done)), H', ⟨by first | omega | exact Nat.le_refl _⟩, ⟨by repeat (first | (with_reducible first | exact HB.out | apply below_alloc | apply pw_below_drewN | apply below_drew1) | exact HB.out)⟩⟩
    ·rw [if_neg c13] at H
     have c13b0 : decide (a0 < 0) = false := decide_eq_false c13
     clear c13
     (first | rw [c13b0] | (simp only [i64_w, i32_w]; rw [c13b0]) | skip)
     have H' := Aside0.mk H
     clear H
     go_wp2
     go_meet
     case rel => exact ⟨_, (false), (by first | rfl | (simp; done) | (simp [*]; done)), H', ⟨by first | omega | exact Nat.le_refl _⟩, ⟨by repeat (first | (with_reducible first | exact HB.out | apply below_alloc | apply pw_below_drewN | apply below_drew1) | exact HB.out)⟩⟩
   case rest =>
    clear HC12
    try clear c1
    try clear p2
    try clear c3
    try clear c3b0
    try clear c5
    try clear c5b0
    try clear c5b1
    try clear p6
    try clear c7
    try clear c7b0
    try clear c7b1
    try clear c10
    try clear c11
    try clear c11b0
    try clear c11b1
    try clear c13
    try clear c13b0
    obtain ⟨kq, x38_11, rfl, HA, HJ11, HB⟩ := hcut
    cases kq with
    | zero => exact absurd HA.out (by simp [mapmakerlaw01_NumQuotients.j0])
    | succ kj11 =>
     have H := HA.out
     clear HA
     simp only [mapmakerlaw01_NumQuotients.j0] at H
     by_cases c14 : x38_11 = true
     ·subst c14
      have H1 : ((num_MulDiv.f kj11 a0 1 a1).bind fun bt181 => ((num_RoundDiv.f kj11 a0 a1).bind fun t183 => (if t180 = (wrap64 ((wrap64 (Int.tdiv a0 a1)) - 1)) then (if bt181.2 = true then (if bt181.1 = t180 then (if t183 = t180 then ((mapmakerlaw01_lives.f kj11).bind fun t184 => (some t184)) else (if (wrap64 (t183 - 1)) = t180 then ((mapmakerlaw01_lives.f kj11).bind fun t185 => (some t185)) else (none))) else (none)) else (none)) else (none)))) = some r := by rw [if_pos rfl] at H; exact H
      clear H
      have H := H1
      clear H1
      replace H := Option.bind_eq_some_iff.mp H
      obtain ⟨⟨t181, t182⟩, A150, H⟩ := H
      replace H : ((num_RoundDiv.f kj11 a0 a1).bind fun t183 => (if t180 = (wrap64 ((wrap64 (Int.tdiv a0 a1)) - 1)) then (if t182 = true then (if t181 = t180 then (if t183 = t180 then ((mapmakerlaw01_lives.f kj11).bind fun t184 => (some t184)) else (if (wrap64 (t183 - 1)) = t180 then ((mapmakerlaw01_lives.f kj11).bind fun t185 => (some t185)) else (none))) else (none)) else (none)) else (none))) = some r := H
      have A15 := Aside0.mk A150
      clear A150
      replace H := Option.bind_eq_some_iff.mp H
      obtain ⟨t183, A160, H⟩ := H
      replace H : (if t180 = (wrap64 ((wrap64 (Int.tdiv a0 a1)) - 1)) then (if t182 = true then (if t181 = t180 then (if t183 = t180 then ((mapmakerlaw01_lives.f kj11).bind fun t184 => (some t184)) else (if (wrap64 (t183 - 1)) = t180 then ((mapmakerlaw01_lives.f kj11).bind fun t185 => (some t185)) else (none))) else (none)) else (none)) else (none)) = some r := H
      have A16 := Aside0.mk A160
      clear A160
      by_cases c17 : t180 = (wrap64 ((wrap64 (Int.tdiv a0 a1)) - 1))
      ·rw [if_pos c17] at H
       have c17b0 : (t180 == (wrap64 ((wrap64 (Int.tdiv a0 a1)) - 1))) = true := beq_iff_eq.mpr c17
       have c17b1 : (t180 != (wrap64 ((wrap64 (Int.tdiv a0 a1)) - 1))) = false := bne_eq_false_iff_eq.mpr c17
       clear c17
       by_cases c18 : t182 = true
       ·subst c18
        have H1 : (if t181 = t180 then (if t183 = t180 then ((mapmakerlaw01_lives.f kj11).bind fun t184 => (some t184)) else (if (wrap64 (t183 - 1)) = t180 then ((mapmakerlaw01_lives.f kj11).bind fun t185 => (some t185)) else (none))) else (none)) = some r := by rw [if_pos rfl] at H; exact H
        clear H
        have H := H1
        clear H1
        by_cases c19 : t181 = t180
        ·rw [if_pos c19] at H
         have c19b0 : (t181 == t180) = true := beq_iff_eq.mpr c19
         have c19b1 : (t181 != t180) = false := bne_eq_false_iff_eq.mpr c19
         clear c19
         by_cases c20 : t183 = t180
         ·rw [if_pos c20] at H
          have c20b0 : (t183 == t180) = true := beq_iff_eq.mpr c20
          have c20b1 : (t183 != t180) = false := bne_eq_false_iff_eq.mpr c20
          clear c20
          replace H := Option.bind_eq_some_iff.mp H
          obtain ⟨t184, A210, H⟩ := H
          replace H : (some t184) = some r := H
          have A21 := Aside0.mk A210
          clear A210
          obtain rfl := Option.some.inj H
          go_wp2_with (first | ((with_reducible refine gate_callee (f := 22) rfl ?_); refine goesL_ (some 44) rfl rfl Try.func22 (by kernel_rfl) rfl #[.int .i64 a0, .int .i64 1, .int .i64 a1] rfl (by (try simp only [List.map_toArray, List.map_cons, List.map_nil]); first | done | rfl | (simp only [List.length_drop, List.length_take]; rfl)) ?_; (with_reducible refine (num_MulDiv.calls kj11 a0 1 a1 t181 true _ A15.out).mono ?_); rintro e w22 ⟨rfl, hb⟩; refine ⟨_, rfl, ?_⟩; have n0_ := Aside0.mk (below_step (by repeat (first | (with_reducible first | exact HB.out | apply below_alloc | apply pw_below_drewN | apply below_drew1) | exact HB.out)) hb); clear HB; have HB := n0_; clear n0_; (try clear hb); (try clear hb2); (try clear hk); (try clear hi)) | ((with_reducible refine gate_callee (f := 16) rfl ?_); refine goesL_ (some 49) rfl rfl Try.func16 (by kernel_rfl) rfl #[.int .i64 a0, .int .i64 a1] rfl (by (try simp only [List.map_toArray, List.map_cons, List.map_nil]); first | done | rfl | (simp only [List.length_drop, List.length_take]; rfl)) ?_; (with_reducible refine (num_RoundDiv.calls kj11 a0 a1 t183 _ A16.out).mono ?_); rintro e w' ⟨rfl, ⟨nd, rfl⟩⟩; refine ⟨_, rfl, ?_⟩) | (go_at_call 13; (with_reducible refine (mapmakerlaw01_lives.calls kj11  t184 _ A21.out).mono ?_); rintro e w23 ⟨rfl, hb⟩; have n0_ := Aside0.mk (below_step (by repeat (first | (with_reducible first | exact HB.out | apply below_alloc | apply pw_below_drewN | apply below_drew1) | exact HB.out)) hb); clear HB; have HB := n0_; clear n0_; (try clear hb); (try clear hb2); (try clear hk); (try clear hi)))
          go_ret
          exact ⟨by first | rfl | (simp [errW_none, errW_some] <;> rfl) | (simp [*, errW_none, errW_some] <;> rfl), by repeat (first | (with_reducible first | exact HB.out | apply below_alloc | apply pw_below_drewN | apply below_drew1) | exact HB.out)⟩
         ·rw [if_neg c20] at H
          have c20b0 : (t183 == t180) = false := beq_eq_false_iff_ne.mpr c20
          have c20b1 : (t183 != t180) = true := bne_iff_ne.mpr c20
          by_cases c24 : (wrap64 (t183 - 1)) = t180
          ·rw [if_pos c24] at H
           have c24b0 : ((wrap64 (t183 - 1)) == t180) = true := beq_iff_eq.mpr c24
           have c24b1 : ((wrap64 (t183 - 1)) != t180) = false := bne_eq_false_iff_eq.mpr c24
           clear c24
           replace H := Option.bind_eq_some_iff.mp H
           obtain ⟨t185, A250, H⟩ := H
           replace H : (some t185) = some r := H
           have A25 := Aside0.mk A250
           clear A250
           obtain rfl := Option.some.inj H
           go_wp2_with (first | ((with_reducible refine gate_callee (f := 22) rfl ?_); refine goesL_ (some 44) rfl rfl Try.func22 (by kernel_rfl) rfl #[.int .i64 a0, .int .i64 1, .int .i64 a1] rfl (by (try simp only [List.map_toArray, List.map_cons, List.map_nil]); first | done | rfl | (simp only [List.length_drop, List.length_take]; rfl)) ?_; (with_reducible refine (num_MulDiv.calls kj11 a0 1 a1 t181 true _ A15.out).mono ?_); rintro e w26 ⟨rfl, hb⟩; refine ⟨_, rfl, ?_⟩; have n0_ := Aside0.mk (below_step (by repeat (first | (with_reducible first | exact HB.out | apply below_alloc | apply pw_below_drewN | apply below_drew1) | exact HB.out)) hb); clear HB; have HB := n0_; clear n0_; (try clear hb); (try clear hb2); (try clear hk); (try clear hi)) | ((with_reducible refine gate_callee (f := 16) rfl ?_); refine goesL_ (some 49) rfl rfl Try.func16 (by kernel_rfl) rfl #[.int .i64 a0, .int .i64 a1] rfl (by (try simp only [List.map_toArray, List.map_cons, List.map_nil]); first | done | rfl | (simp only [List.length_drop, List.length_take]; rfl)) ?_; (with_reducible refine (num_RoundDiv.calls kj11 a0 a1 t183 _ A16.out).mono ?_); rintro e w' ⟨rfl, ⟨nd, rfl⟩⟩; refine ⟨_, rfl, ?_⟩) | (go_at_call 13; (with_reducible refine (mapmakerlaw01_lives.calls kj11  t185 _ A25.out).mono ?_); rintro e w27 ⟨rfl, hb⟩; have n0_ := Aside0.mk (below_step (by repeat (first | (with_reducible first | exact HB.out | apply below_alloc | apply pw_below_drewN | apply below_drew1) | exact HB.out)) hb); clear HB; have HB := n0_; clear n0_; (try clear hb); (try clear hb2); (try clear hk); (try clear hi)))
           go_ret
           exact ⟨by first | rfl | (simp [errW_none, errW_some] <;> rfl) | (simp [*, errW_none, errW_some] <;> rfl), by repeat (first | (with_reducible first | exact HB.out | apply below_alloc | apply pw_below_drewN | apply below_drew1) | exact HB.out)⟩
          ·rw [if_neg c24] at H
           exact absurd H (by simp)
        ·rw [if_neg c19] at H
         exact absurd H (by simp)
       ·replace c18 := Bool.eq_false_iff.mpr c18
        subst c18
        have H1 : (none) = some r := by rw [if_neg (show ¬ (false = true) by decide)] at H; exact H
        clear H
        have H := H1
        clear H1
        exact absurd H (by simp)
      ·rw [if_neg c17] at H
       exact absurd H (by simp)
     ·replace c14 := Bool.eq_false_iff.mpr c14
      subst c14
      have H1 : ((num_MulDiv.f kj11 a0 1 a1).bind fun bt186 => ((num_RoundDiv.f kj11 a0 a1).bind fun t188 => (if t180 = (wrap64 (Int.tdiv a0 a1)) then (if bt186.2 = true then (if bt186.1 = t180 then (if t188 = t180 then ((mapmakerlaw01_lives.f kj11).bind fun t189 => (some t189)) else (if (wrap64 (t188 - 1)) = t180 then ((mapmakerlaw01_lives.f kj11).bind fun t190 => (some t190)) else (none))) else (none)) else (none)) else (none)))) = some r := by rw [if_neg (show ¬ (false = true) by decide)] at H; exact H
      clear H
      have H := H1
      clear H1
      replace H := Option.bind_eq_some_iff.mp H
      obtain ⟨⟨t186, t187⟩, A280, H⟩ := H
      replace H : ((num_RoundDiv.f kj11 a0 a1).bind fun t188 => (if t180 = (wrap64 (Int.tdiv a0 a1)) then (if t187 = true then (if t186 = t180 then (if t188 = t180 then ((mapmakerlaw01_lives.f kj11).bind fun t189 => (some t189)) else (if (wrap64 (t188 - 1)) = t180 then ((mapmakerlaw01_lives.f kj11).bind fun t190 => (some t190)) else (none))) else (none)) else (none)) else (none))) = some r := H
      have A28 := Aside0.mk A280
      clear A280
      replace H := Option.bind_eq_some_iff.mp H
      obtain ⟨t188, A290, H⟩ := H
      replace H : (if t180 = (wrap64 (Int.tdiv a0 a1)) then (if t187 = true then (if t186 = t180 then (if t188 = t180 then ((mapmakerlaw01_lives.f kj11).bind fun t189 => (some t189)) else (if (wrap64 (t188 - 1)) = t180 then ((mapmakerlaw01_lives.f kj11).bind fun t190 => (some t190)) else (none))) else (none)) else (none)) else (none)) = some r := H
      have A29 := Aside0.mk A290
      clear A290
      by_cases c30 : t180 = (wrap64 (Int.tdiv a0 a1))
      ·rw [if_pos c30] at H
       have c30b0 : (t180 == (wrap64 (Int.tdiv a0 a1))) = true := beq_iff_eq.mpr c30
       have c30b1 : (t180 != (wrap64 (Int.tdiv a0 a1))) = false := bne_eq_false_iff_eq.mpr c30
       clear c30
       by_cases c31 : t187 = true
       ·subst c31
        have H1 : (if t186 = t180 then (if t188 = t180 then ((mapmakerlaw01_lives.f kj11).bind fun t189 => (some t189)) else (if (wrap64 (t188 - 1)) = t180 then ((mapmakerlaw01_lives.f kj11).bind fun t190 => (some t190)) else (none))) else (none)) = some r := by rw [if_pos rfl] at H; exact H
        clear H
        have H := H1
        clear H1
        by_cases c32 : t186 = t180
        ·rw [if_pos c32] at H
         have c32b0 : (t186 == t180) = true := beq_iff_eq.mpr c32
         have c32b1 : (t186 != t180) = false := bne_eq_false_iff_eq.mpr c32
         clear c32
         by_cases c33 : t188 = t180
         ·rw [if_pos c33] at H
          have c33b0 : (t188 == t180) = true := beq_iff_eq.mpr c33
          have c33b1 : (t188 != t180) = false := bne_eq_false_iff_eq.mpr c33
          clear c33
          replace H := Option.bind_eq_some_iff.mp H
          obtain ⟨t189, A340, H⟩ := H
          replace H : (some t189) = some r := H
          have A34 := Aside0.mk A340
          clear A340
          obtain rfl := Option.some.inj H
          go_wp2_with (first | ((with_reducible refine gate_callee (f := 22) rfl ?_); refine goesL_ (some 44) rfl rfl Try.func22 (by kernel_rfl) rfl #[.int .i64 a0, .int .i64 1, .int .i64 a1] rfl (by (try simp only [List.map_toArray, List.map_cons, List.map_nil]); first | done | rfl | (simp only [List.length_drop, List.length_take]; rfl)) ?_; (with_reducible refine (num_MulDiv.calls kj11 a0 1 a1 t186 true _ A28.out).mono ?_); rintro e w35 ⟨rfl, hb⟩; refine ⟨_, rfl, ?_⟩; have n0_ := Aside0.mk (below_step (by repeat (first | (with_reducible first | exact HB.out | apply below_alloc | apply pw_below_drewN | apply below_drew1) | exact HB.out)) hb); clear HB; have HB := n0_; clear n0_; (try clear hb); (try clear hb2); (try clear hk); (try clear hi)) | ((with_reducible refine gate_callee (f := 16) rfl ?_); refine goesL_ (some 49) rfl rfl Try.func16 (by kernel_rfl) rfl #[.int .i64 a0, .int .i64 a1] rfl (by (try simp only [List.map_toArray, List.map_cons, List.map_nil]); first | done | rfl | (simp only [List.length_drop, List.length_take]; rfl)) ?_; (with_reducible refine (num_RoundDiv.calls kj11 a0 a1 t188 _ A29.out).mono ?_); rintro e w' ⟨rfl, ⟨nd, rfl⟩⟩; refine ⟨_, rfl, ?_⟩) | (go_at_call 13; (with_reducible refine (mapmakerlaw01_lives.calls kj11  t189 _ A34.out).mono ?_); rintro e w36 ⟨rfl, hb⟩; have n0_ := Aside0.mk (below_step (by repeat (first | (with_reducible first | exact HB.out | apply below_alloc | apply pw_below_drewN | apply below_drew1) | exact HB.out)) hb); clear HB; have HB := n0_; clear n0_; (try clear hb); (try clear hb2); (try clear hk); (try clear hi)))
          go_ret
          exact ⟨by first | rfl | (simp [errW_none, errW_some] <;> rfl) | (simp [*, errW_none, errW_some] <;> rfl), by repeat (first | (with_reducible first | exact HB.out | apply below_alloc | apply pw_below_drewN | apply below_drew1) | exact HB.out)⟩
         ·rw [if_neg c33] at H
          have c33b0 : (t188 == t180) = false := beq_eq_false_iff_ne.mpr c33
          have c33b1 : (t188 != t180) = true := bne_iff_ne.mpr c33
          by_cases c37 : (wrap64 (t188 - 1)) = t180
          ·rw [if_pos c37] at H
           have c37b0 : ((wrap64 (t188 - 1)) == t180) = true := beq_iff_eq.mpr c37
           have c37b1 : ((wrap64 (t188 - 1)) != t180) = false := bne_eq_false_iff_eq.mpr c37
           clear c37
           replace H := Option.bind_eq_some_iff.mp H
           obtain ⟨t190, A380, H⟩ := H
           replace H : (some t190) = some r := H
           have A38 := Aside0.mk A380
           clear A380
           obtain rfl := Option.some.inj H
           go_wp2_with (first | ((with_reducible refine gate_callee (f := 22) rfl ?_); refine goesL_ (some 44) rfl rfl Try.func22 (by kernel_rfl) rfl #[.int .i64 a0, .int .i64 1, .int .i64 a1] rfl (by (try simp only [List.map_toArray, List.map_cons, List.map_nil]); first | done | rfl | (simp only [List.length_drop, List.length_take]; rfl)) ?_; (with_reducible refine (num_MulDiv.calls kj11 a0 1 a1 t186 true _ A28.out).mono ?_); rintro e w39 ⟨rfl, hb⟩; refine ⟨_, rfl, ?_⟩; have n0_ := Aside0.mk (below_step (by repeat (first | (with_reducible first | exact HB.out | apply below_alloc | apply pw_below_drewN | apply below_drew1) | exact HB.out)) hb); clear HB; have HB := n0_; clear n0_; (try clear hb); (try clear hb2); (try clear hk); (try clear hi)) | ((with_reducible refine gate_callee (f := 16) rfl ?_); refine goesL_ (some 49) rfl rfl Try.func16 (by kernel_rfl) rfl #[.int .i64 a0, .int .i64 a1] rfl (by (try simp only [List.map_toArray, List.map_cons, List.map_nil]); first | done | rfl | (simp only [List.length_drop, List.length_take]; rfl)) ?_; (with_reducible refine (num_RoundDiv.calls kj11 a0 a1 t188 _ A29.out).mono ?_); rintro e w' ⟨rfl, ⟨nd, rfl⟩⟩; refine ⟨_, rfl, ?_⟩) | (go_at_call 13; (with_reducible refine (mapmakerlaw01_lives.calls kj11  t190 _ A38.out).mono ?_); rintro e w40 ⟨rfl, hb⟩; have n0_ := Aside0.mk (below_step (by repeat (first | (with_reducible first | exact HB.out | apply below_alloc | apply pw_below_drewN | apply below_drew1) | exact HB.out)) hb); clear HB; have HB := n0_; clear n0_; (try clear hb); (try clear hb2); (try clear hk); (try clear hi)))
           go_ret
           exact ⟨by first | rfl | (simp [errW_none, errW_some] <;> rfl) | (simp [*, errW_none, errW_some] <;> rfl), by repeat (first | (with_reducible first | exact HB.out | apply below_alloc | apply pw_below_drewN | apply below_drew1) | exact HB.out)⟩
          ·rw [if_neg c37] at H
           exact absurd H (by simp)
        ·rw [if_neg c32] at H
         exact absurd H (by simp)
       ·replace c31 := Bool.eq_false_iff.mpr c31
        subst c31
        have H1 : (none) = some r := by rw [if_neg (show ¬ (false = true) by decide)] at H; exact H
        clear H
        have H := H1
        clear H1
        exact absurd H (by simp)
      ·rw [if_neg c30] at H
       exact absurd H (by simp)

/-- THE ONE PURE STATEMENT of mapmakerlaw01_NumQuotients: yours. -/
def mapmakerlaw01_NumQuotients.Pure : Prop := ∀ (a0 : Int) (a1 : Int), (Lit.int .i64 a0).wf = true → (Lit.int .i64 a1).wf = true → ∃ k, mapmakerlaw01_NumQuotients.f k a0 a1 = some true
theorem mapmakerlaw01_NumQuotients.walk (P : mapmakerlaw01_NumQuotients.Pure) (a0 : Int) (a1 : Int) (w : World) (w0 : (Lit.int .i64 a0).wf = true) (w1 : (Lit.int .i64 a1).wf = true) :
  Calls Try.prog 10 #[.int .i64 a0, .int .i64 a1] w fun e w' => e = .returned (.bool true) ∧ Below w.heap.size w w' := by
 obtain ⟨k, h⟩ := P a0 a1 w0 w1
 refine (mapmakerlaw01_NumQuotients.calls k a0 a1 true w h).mono ?_
 rintro e w' ⟨rfl, hd⟩
 exact ⟨rfl, hd⟩

end Go.Proofs.Ytbjgcfbmifpepaa.PAll
