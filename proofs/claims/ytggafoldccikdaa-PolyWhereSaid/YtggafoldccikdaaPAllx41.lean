import Derived.Test.YtggafoldccikdaaPAllx0
import Derived.Test.YtggafoldccikdaaPAllx1
import Derived.Test.YtggafoldccikdaaPAllx18
import Derived.Test.YtggafoldccikdaaPAllx24
import Derived.Test.YtggafoldccikdaaPAllx40
namespace Go.Proofs.Ytggafoldccikdaa.PAll
open Go.RowKit Go.Proofs.YtggafoldccikdaaW.PrintWords Go.Proofs.YtggafoldccikdaaW.PrintLast Go.Proofs.YtggafoldccikdaaW.PrintMore
attribute [local go_sem] max2_int min2_int max_two min_two max_three min_three max_four min_four
set_option linter.unusedVariables false
set_option linter.unusedSimpArgs false
attribute [local irreducible] Calls

/-! ### mapmakerlaw11_PolyWhere: function 4 -/
def mapmakerlaw11_PolyWhere.f (k : Nat) (l0 : List (S30)) (a1_0 : Int) (a1_1 : Int) : Option (Bool) := (mapmakerlaw11_few.f l0).bind fun t341 => (if t341 = true then ((poly_Where.f k l0 a1_0 a1_1).bind fun t342 => ((mapmakerref11_Where.f k l0 a1_0 a1_1).bind fun t343 => (if t342 = t343 then ((mapmakerlaw11_lives.f k).bind fun t344 => (some t344)) else (none)))) else ((mapmakerlaw11_lives.f k).bind fun t345 => (some t345)))
theorem mapmakerlaw11_PolyWhere.mono : ∀ a0 a1 a2 k, LeO (mapmakerlaw11_PolyWhere.f k a0 a1 a2) (mapmakerlaw11_PolyWhere.f (k + 1) a0 a1 a2) := by
 intro a0 a1 a2 k
 unfold mapmakerlaw11_PolyWhere.f
 repeat' first
   | (with_reducible exact mapmakerlaw11_lives.mono _)
   | (with_reducible exact mapmakerref11_Where.mono _ _ _ _)
   | (with_reducible exact poly_Where.mono _ _ _ _)
   | (with_reducible exact LeO.refl _)
   | (with_reducible exact LeO.none _)
   | (with_reducible refine LeO.ite ?_ ?_)
   | (with_reducible refine LeO.bind ?_ (fun _ => ?_))
   | exact mapmakerlaw11_lives.mono _
   | exact mapmakerref11_Where.mono _ _ _ _
   | exact poly_Where.mono _ _ _ _
   | exact LeO.none _
   | refine LeO.ite ?_ ?_
   | refine LeO.bind ?_ (fun _ => ?_)
def mapmakerlaw11_PolyWhere.T3 : Bool × List (List Nat × List Nat) := (true, [([], []), ([], []), ([0, 1], [0, 1]), ([], []), ([], []), ([3, 4, 2], [3, 4]), ([2, 5], [2, 5]), ([6, 5], [6]), ([7, 7], [7]), ([7, 8], [7, 8]), ([9, 8, 0, 1, 2, 3, 4, 5, 6, 7, 8, 9], [9])])
def mapmakerlaw11_PolyWhere.B3 : List Nat := [0, 0, 3, 0, 0, 31, 63, 127, 255, 511, 1023]
theorem mapmakerlaw11_PolyWhere.tab3 : rtab .any (opsOf Try.f4 3) = mapmakerlaw11_PolyWhere.T3 := by kernel_rfl
theorem mapmakerlaw11_PolyWhere.bits3 : waitsOk mapmakerlaw11_PolyWhere.T3.2 mapmakerlaw11_PolyWhere.B3 = true := by kernel_rfl
set_option maxHeartbeats 8000000 in
set_option maxRecDepth 100000 in
theorem mapmakerlaw11_PolyWhere.calls (k : Nat) (A0 : Option Addr) (c0 : Nat) (l0 : List (S30)) (a1_0 : Int) (a1_1 : Int) (r : Bool) (w : World) (hr0 : Kd.C k30 w A0 l0.length l0) (hc0 : l0.length ≤ c0) (h : mapmakerlaw11_PolyWhere.f k l0 a1_0 a1_1 = some r) :
  Calls Try.prog 4 #[.slice A0 l0.length c0, .agg #[.int .i64 a1_0, .int .i64 a1_1]] w fun e w' => e = .returned (.bool r) ∧ Below w.heap.size w w' := by
 have hu30 := Try.underlying30; have HR0 := Aside0.mk hr0; have HC0 := Aside0.mk hc0; clear hr0 hc0; have HB := Aside0.mk (Below.refl w.heap.size w); have H : ((mapmakerlaw11_few.f l0).bind fun t341 => (if t341 = true then ((poly_Where.f k l0 a1_0 a1_1).bind fun t342 => ((mapmakerref11_Where.f k l0 a1_0 a1_1).bind fun t343 => (if t342 = t343 then ((mapmakerlaw11_lives.f k).bind fun t344 => (some t344)) else (none)))) else ((mapmakerlaw11_lives.f k).bind fun t345 => (some t345)))) = some r := h; clear h; replace H := Option.bind_eq_some_iff.mp H; obtain ⟨t341, A30, H⟩ := H; replace H : (if t341 = true then ((poly_Where.f k l0 a1_0 a1_1).bind fun t342 => ((mapmakerref11_Where.f k l0 a1_0 a1_1).bind fun t343 => (if t342 = t343 then ((mapmakerlaw11_lives.f k).bind fun t344 => (some t344)) else (none)))) else ((mapmakerlaw11_lives.f k).bind fun t345 => (some t345))) = some r := H; have A3 := Aside0.mk A30; clear A30
 by_cases c4 : t341 = true
 ·subst c4; have H1 : ((poly_Where.f k l0 a1_0 a1_1).bind fun t342 => ((mapmakerref11_Where.f k l0 a1_0 a1_1).bind fun t343 => (if t342 = t343 then ((mapmakerlaw11_lives.f k).bind fun t344 => (some t344)) else (none)))) = some r := by rw [if_pos rfl] at H; exact H
  clear H; have H := H1; clear H1; replace H := Option.bind_eq_some_iff.mp H; obtain ⟨t342, A50, H⟩ := H; replace H : ((mapmakerref11_Where.f k l0 a1_0 a1_1).bind fun t343 => (if t342 = t343 then ((mapmakerlaw11_lives.f k).bind fun t344 => (some t344)) else (none))) = some r := H; have A5 := Aside0.mk A50; clear A50; replace H := Option.bind_eq_some_iff.mp H; obtain ⟨t343, A60, H⟩ := H; replace H : (if t342 = t343 then ((mapmakerlaw11_lives.f k).bind fun t344 => (some t344)) else (none)) = some r := H; have A6 := Aside0.mk A60; clear A60
  by_cases c7 : t342 = t343
  ·rw [if_pos c7] at H
   have c7b0 : (t342 == t343) = true := beq_iff_eq.mpr c7; have c7b1 : (t342 != t343) = false := bne_eq_false_iff_eq.mpr c7; clear c7; replace H := Option.bind_eq_some_iff.mp H; obtain ⟨t344, A80, H⟩ := H; replace H : (some t344) = some r := H; have A8 := Aside0.mk A80; clear A80; obtain rfl := Option.some.inj H
   go_enter Try.func4, Try.ntmps4
   try go_wp2_with (first | ((with_reducible refine gate_dst (N := 3) rfl ?_); refine box_event ?hg (N := 3) ?hd (cs := #[.int .i64 a1_0, .int .i64 a1_1]) (t := 30) ?hr ?_; (case hd => rfl); (case hg => rfl); (case hr => first | (go_simp; done) | (go_simp; rfl)); intro gb340 hg w9 hbox hb; have n0_ := Aside0.mk (below_step (by repeat with_reducible first | exact HB.out | apply below_alloc | apply pw_below_drewN | apply below_drew1) hb); have n1_ := Aside0.mk (hbox); have n2_ := Aside0.mk ((by rw [hg]; exact (below_size (by repeat with_reducible first | exact HB.out | apply below_alloc | apply pw_below_drewN | apply below_drew1)) : w.heap.size ≤ gb340)); have n3_ := n2_; clear HB; have HB := n0_; have BK340 := n1_; have GW340 := n2_; have GE340 := n3_; clear n0_ n1_ n2_ n3_ hb hbox hg) | ((with_reducible refine gate_callee (f := 8) rfl ?_); refine goesL_ (some 6) rfl rfl Try.func8 (by kernel_rfl) rfl #[.slice A0 l0.length c0] rfl (by (try simp only [List.map_toArray, List.map_cons, List.map_nil]); first | done | rfl | (simp only [List.length_drop, List.length_take]; rfl)) ?_; (with_reducible refine (mapmakerlaw11_few.calls _ _ l0 true _ ?side1 ?side2 A3.out).mono ?_); (case side1 => repeat (first | exact (Kd.C_below HR0.out HB.out) | (with_reducible refine Kd.C_alloc ?_ _) | (with_reducible refine Kd.C_drewN ?_ _) | (with_reducible refine Kd.C_drew ?_))); (case side2 => exact HC0.out); rintro e w' ⟨rfl, ⟨nd, rfl⟩⟩; refine ⟨_, rfl, ?_⟩))
   (try (rw [drewN_self w9]; generalize hq_ : World.drewN w9 _ = w9; have n0_ : Aside0 (w9.heap[gb340]? = some (.cells #[.int .i64 a1_0, .int .i64 a1_1] 30 (0, 0))) := ⟨by rw [← hq_]; exact (by (with_reducible repeat first | apply blk_drewN | apply blk_drew | apply blk_alloc); exact BK340.out)⟩; have n1_ : Aside0 (Below w.heap.size w w9) := ⟨by rw [← hq_]; exact (by repeat with_reducible first | exact HB.out | apply below_alloc | apply pw_below_drewN | apply below_drew1 | refine below_set ?_ GE340.out)⟩; clear BK340 HB hq_; have BK340 := n0_; have HB := n1_; clear n0_ n1_)); have n0_ := Aside0.mk (blk_drew BK340.out); have n1_ := Aside0.mk (below_drew1 HB.out); clear BK340 HB; have BK340 := n0_; have HB := n1_; clear n0_ n1_; refine start_ (n := 11) (S := fun w' => w'.cell? ⟨gb340, 0, none⟩ = some (.int .i64 a1_0) ∧ w'.cell? ⟨gb340, 1, none⟩ = some (.int .i64 a1_1)) (ds := []) #[F, F, F, F, F, F, F, F, F, F, F] (by kernel_rfl) rfl rfl ⟨(blk_cell BK340.out 0).trans rfl, (blk_cell BK340.out 1).trans rfl⟩ (fun hHeld => ?_); refine with_tabW mapmakerlaw11_PolyWhere.tab3 mapmakerlaw11_PolyWhere.bits3 (fun HT_ HW_ => ?_); generalize w9.drew = w10 at BK340 HB hHeld ⊢
   refine pure_ (i := 0) (N := some 9) (v := ?_) (a' := ?_) #[T, F, F, F, F, F, F, F, F, F, F] rfl rfl (any_of HT_.out (by kernel_rfl)) (fun _ _ _ h => h) (Or.inl ⟨by rfl, ?_⟩) ?_ ?_; rotate_left
   ·intro w'; go_simp; with_reducible rfl
   rotate_left
   ·go_simp
    rfl
   refine pure_ (i := 3) (N := some 12) (v := ?_) (a' := ?_) #[T, F, F, T, F, F, F, F, F, F, F] rfl rfl (any_of HT_.out (by kernel_rfl)) (fun _ _ _ h => h) (Or.inl ⟨by rfl, ?_⟩) ?_ ?_; rotate_left
   ·intro w'; go_simp; with_reducible rfl
   rotate_left
   ·go_simp
    rfl
   refine take_ (i := 1) (N := some 10) (v := ?_) (a' := ?_) #[T, T, F, T, F, F, F, F, F, F, F] rfl rfl (take_ofW HT_.out HW_.out (by kernel_rfl)) (fun _ _ _ h => h) (Or.inl ⟨by rfl, ?_⟩) hHeld ?_ ?_; rotate_left
   ·rintro w' ⟨s0, s1⟩; go_simp; with_reducible rfl
   rotate_left
   ·go_simp
    rfl
   refine take_ (i := 4) (N := some 13) (v := ?_) (a' := ?_) #[T, T, F, T, T, F, F, F, F, F, F] rfl rfl (take_ofW HT_.out HW_.out (by kernel_rfl)) (fun _ _ _ h => h) (Or.inl ⟨by rfl, ?_⟩) hHeld ?_ ?_; rotate_left
   ·rintro w' ⟨s0, s1⟩; go_simp; with_reducible rfl
   rotate_left
   ·go_simp
    rfl
   refine one_ (i := 2) (N := some 11) #[T, T, T, T, T, F, F, F, F, F, F] rfl rfl (one_of HT_.out (by kernel_rfl)) (by decide) (fun K hK => ?_); refine goes_ Try.func17 (by kernel_rfl) rfl #[.slice A0 l0.length c0, .agg #[.int .i64 a1_0, .int .i64 a1_1]] (by rfl) rfl rfl (by (try simp only [List.map_toArray, List.map_cons, List.map_nil]); first | done | rfl | (simp only [List.length_drop, List.length_take]; rfl)) ?_; with_reducible refine (poly_Where.calls k _ _ l0 a1_0 a1_1 t342 _ ?side1 ?side2 A5.out).mono ?_; (case side1 => repeat (first | exact (Kd.C_below HR0.out HB.out) | (with_reducible refine Kd.C_alloc ?_ _) | (with_reducible refine Kd.C_drewN ?_ _) | (with_reducible refine Kd.C_drew ?_))); (case side2 => exact HC0.out); rintro e w11 ⟨rfl, hb⟩; refine ⟨_, rfl, ?_⟩; have n0_ := Aside0.mk (blk_below (by (with_reducible repeat first | apply blk_drewN | apply blk_drew | apply blk_alloc); exact BK340.out) hb); have n1_ := Aside0.mk (below_step (by repeat with_reducible first | exact HB.out | apply below_alloc | apply pw_below_drewN | apply below_drew1 | refine below_set ?_ GE340.out) hb); clear BK340 HB; have BK340 := n0_; have HB := n1_; clear n0_ n1_; (try clear hb); (try clear hb2); (try clear hk); (try clear hi); refine hK.out _ _ ⟨(blk_cell BK340.out 0).trans rfl, (blk_cell BK340.out 1).trans rfl⟩ (fun hHeld => ?_); clear hK K; refine norm_ (a' := ?_) ?_ ?_; rotate_left
   ·show Act.put _ (some 11) _ = _; go_simp; rfl
   refine one_ (i := 5) (N := some 14) #[T, T, T, T, T, T, F, F, F, F, F] rfl rfl (one_of HT_.out (by kernel_rfl)) (by decide) (fun K hK => ?_); refine goes_ Try.func18 (by kernel_rfl) rfl #[.slice A0 l0.length c0, .agg #[.int .i64 a1_0, .int .i64 a1_1]] (by rfl) rfl rfl (by (try simp only [List.map_toArray, List.map_cons, List.map_nil]); first | done | rfl | (simp only [List.length_drop, List.length_take]; rfl)) ?_; with_reducible refine (mapmakerref11_Where.calls k _ _ l0 a1_0 a1_1 t343 _ ?side1 ?side2 A6.out).mono ?_; (case side1 => repeat (first | exact (Kd.C_below HR0.out HB.out) | (with_reducible refine Kd.C_alloc ?_ _) | (with_reducible refine Kd.C_drewN ?_ _) | (with_reducible refine Kd.C_drew ?_))); (case side2 => exact HC0.out); rintro e w12 ⟨rfl, hb⟩; refine ⟨_, rfl, ?_⟩; have n0_ := Aside0.mk (blk_below (by (with_reducible repeat first | apply blk_drewN | apply blk_drew | apply blk_alloc); exact BK340.out) hb); have n1_ := Aside0.mk (below_step (by repeat with_reducible first | exact HB.out | apply below_alloc | apply pw_below_drewN | apply below_drew1 | refine below_set ?_ GE340.out) hb); clear BK340 HB; have BK340 := n0_; have HB := n1_; clear n0_ n1_; (try clear hb); (try clear hb2); (try clear hk); (try clear hi); refine hK.out _ _ ⟨(blk_cell BK340.out 0).trans rfl, (blk_cell BK340.out 1).trans rfl⟩ (fun hHeld => ?_); clear hK K; refine norm_ (a' := ?_) ?_ ?_; rotate_left
   ·show Act.put _ (some 14) _ = _; go_simp; rfl
   refine pure_ (i := 6) (N := some 15) (v := ?_) (a' := ?_) #[T, T, T, T, T, T, T, F, F, F, F] rfl rfl (any_of HT_.out (by kernel_rfl)) (fun _ _ _ h => h) (Or.inl ⟨by rfl, ?_⟩) ?_ ?_; rotate_left
   ·intro w'; go_simp; with_reducible rfl
   rotate_left
   ·go_simp
    rfl
   refine pure_ (i := 7) (N := some 16) (v := ?_) (a' := ?_) #[T, T, T, T, T, T, T, T, F, F, F] rfl rfl (any_of HT_.out (by kernel_rfl)) (fun _ _ _ h => h) (Or.inl ⟨by rfl, ?_⟩) ?_ ?_; rotate_left
   ·intro w'; go_simp; with_reducible rfl
   rotate_left
   ·go_simp
    rfl
   refine one_ (i := 8) (N := some 17) #[T, T, T, T, T, T, T, T, T, F, F] rfl rfl (one_of HT_.out (by kernel_rfl)) (by decide) (fun K hK => ?_); refine goes_ Try.func9 (by kernel_rfl) rfl #[] (by rfl) rfl rfl (by (try simp only [List.map_toArray, List.map_cons, List.map_nil]); first | done | rfl | (simp only [List.length_drop, List.length_take]; rfl)) ?_; with_reducible refine (mapmakerlaw11_lives.calls k  t344 _ A8.out).mono ?_; rintro e w13 ⟨rfl, hb⟩; refine ⟨_, rfl, ?_⟩; have n0_ := Aside0.mk (blk_below (by (with_reducible repeat first | apply blk_drewN | apply blk_drew | apply blk_alloc); exact BK340.out) hb); have n1_ := Aside0.mk (below_step (by repeat with_reducible first | exact HB.out | apply below_alloc | apply pw_below_drewN | apply below_drew1 | refine below_set ?_ GE340.out) hb); clear BK340 HB; have BK340 := n0_; have HB := n1_; clear n0_ n1_; (try clear hb); (try clear hb2); (try clear hk); (try clear hi); refine hK.out _ _ ⟨(blk_cell BK340.out 0).trans rfl, (blk_cell BK340.out 1).trans rfl⟩ (fun hHeld => ?_); clear hK K; refine norm_ (a' := ?_) ?_ ?_; rotate_left
   ·show Act.put _ (some 17) _ = _; go_simp; rfl
   refine pure_ (i := 9) (N := some 18) (v := ?_) (a' := ?_) #[T, T, T, T, T, T, T, T, T, T, F] rfl rfl (any_of HT_.out (by kernel_rfl)) (fun _ _ _ h => h) (Or.inl ⟨by rfl, ?_⟩) ?_ ?_; rotate_left
   ·intro w'; go_simp; with_reducible rfl
   rotate_left
   ·go_simp
    rfl
   refine pure_ (i := 10) (N := some 4) (v := ?_) (a' := ?_) #[T, T, T, T, T, T, T, T, T, T, T] rfl rfl (any_of HT_.out (by kernel_rfl)) (fun _ _ _ h => h) (Or.inl ⟨by rfl, ?_⟩) ?_ ?_; rotate_left
   ·intro w'; go_simp; with_reducible rfl
   rotate_left
   ·go_simp
    rfl
   refine done_ (done_of HT_.out (by kernel_rfl)) ?_
   try go_wp2
   go_ret
   exact ⟨by first | rfl | (simp [errW_none, errW_some] <;> rfl) | (simp [*, errW_none, errW_some] <;> rfl), by repeat with_reducible first | exact HB.out | apply below_alloc | apply pw_below_drewN | apply below_drew1 | refine below_set ?_ GE340.out⟩
  ·rw [if_neg c7] at H
   exact absurd H (by simp)
 ·replace c4 := Bool.eq_false_iff.mpr c4; subst c4; have H1 : ((mapmakerlaw11_lives.f k).bind fun t345 => (some t345)) = some r := by rw [if_neg (show ¬ (false = true) by decide)] at H; exact H
  clear H; have H := H1; clear H1; replace H := Option.bind_eq_some_iff.mp H; obtain ⟨t345, A140, H⟩ := H; replace H : (some t345) = some r := H; have A14 := Aside0.mk A140; clear A140; obtain rfl := Option.some.inj H
  go_enter Try.func4, Try.ntmps4
  go_wp2_with (first | ((with_reducible refine gate_dst (N := 3) rfl ?_); refine box_event ?hg (N := 3) ?hd (cs := #[.int .i64 a1_0, .int .i64 a1_1]) (t := 30) ?hr ?_; (case hd => rfl); (case hg => rfl); (case hr => first | (go_simp; done) | (go_simp; rfl)); intro gb340 hg w15 hbox hb; have n0_ := Aside0.mk (below_step (by repeat with_reducible first | exact HB.out | apply below_alloc | apply pw_below_drewN | apply below_drew1) hb); have n1_ := Aside0.mk (hbox); have n2_ := Aside0.mk ((by rw [hg]; exact (below_size (by repeat with_reducible first | exact HB.out | apply below_alloc | apply pw_below_drewN | apply below_drew1)) : w.heap.size ≤ gb340)); have n3_ := n2_; clear HB; have HB := n0_; have BK340 := n1_; have GW340 := n2_; have GE340 := n3_; clear n0_ n1_ n2_ n3_ hb hbox hg) | ((with_reducible refine gate_callee (f := 8) rfl ?_); refine goesL_ (some 6) rfl rfl Try.func8 (by kernel_rfl) rfl #[.slice A0 l0.length c0] rfl (by (try simp only [List.map_toArray, List.map_cons, List.map_nil]); first | done | rfl | (simp only [List.length_drop, List.length_take]; rfl)) ?_; (with_reducible refine (mapmakerlaw11_few.calls _ _ l0 false _ ?side1 ?side2 A3.out).mono ?_); (case side1 => repeat (first | exact (Kd.C_below HR0.out HB.out) | (with_reducible refine Kd.C_alloc ?_ _) | (with_reducible refine Kd.C_drewN ?_ _) | (with_reducible refine Kd.C_drew ?_))); (case side2 => exact HC0.out); rintro e w' ⟨rfl, ⟨nd, rfl⟩⟩; refine ⟨_, rfl, ?_⟩) | ((with_reducible refine gate_callee (f := 9) rfl ?_); refine goesL_ (some 8) rfl rfl Try.func9 (by kernel_rfl) rfl #[] rfl (by (try simp only [List.map_toArray, List.map_cons, List.map_nil]); first | done | rfl | (simp only [List.length_drop, List.length_take]; rfl)) ?_; (with_reducible refine (mapmakerlaw11_lives.calls k  t345 _ A14.out).mono ?_); rintro e w16 ⟨rfl, hb⟩; refine ⟨_, rfl, ?_⟩; have n0_ := Aside0.mk (blk_below (by (with_reducible repeat first | apply blk_drewN | apply blk_drew | apply blk_alloc); exact BK340.out) hb); have n1_ := Aside0.mk (below_step (by repeat with_reducible first | exact HB.out | apply below_alloc | apply pw_below_drewN | apply below_drew1 | refine below_set ?_ GE340.out) hb); clear BK340 HB; have BK340 := n0_; have HB := n1_; clear n0_ n1_; (try clear hb); (try clear hb2); (try clear hk); (try clear hi)))
  go_ret
  exact ⟨by first | rfl | (simp [errW_none, errW_some] <;> rfl) | (simp [*, errW_none, errW_some] <;> rfl), by repeat with_reducible first | exact HB.out | apply below_alloc | apply pw_below_drewN | apply below_drew1 | refine below_set ?_ GE340.out⟩

/-- THE ONE PURE STATEMENT of mapmakerlaw11_PolyWhere. -/
def mapmakerlaw11_PolyWhere.Pure : Prop := ∀ (l0 : List (S30)) (a1_0 : Int) (a1_1 : Int), (l0.length ≤ maxLen ∧ ∀ x_ ∈ l0, (Lit.int .i64 x_.f0).wf = true ∧ (Lit.int .i64 x_.f1).wf = true) → ((Lit.int .i64 a1_0).wf = true ∧ (Lit.int .i64 a1_1).wf = true) → ∃ k, mapmakerlaw11_PolyWhere.f k l0 a1_0 a1_1 = some true

end Go.Proofs.Ytggafoldccikdaa.PAll
