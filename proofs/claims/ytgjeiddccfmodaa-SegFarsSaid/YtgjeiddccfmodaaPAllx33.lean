-- Written by a program of this session (wip/tools), over the words that print.sh lays. (slim)
import Derived.Test.YtgjeiddccfmodaaPAllx0
import Derived.Test.YtgjeiddccfmodaaPAllx19
import Derived.Test.YtgjeiddccfmodaaPAllx23
import Derived.Test.YtgjeiddccfmodaaPAllx25
import Derived.Test.YtgjeiddccfmodaaPAllx28
import Derived.Test.YtgjeiddccfmodaaPAllx32
namespace Go.Proofs.Ytgjeiddccfmodaa.PAll
open Go.RowKit Go.Proofs.YtgjeiddccfmodaaW.PrintWords Go.Proofs.YtgjeiddccfmodaaW.PrintLast Go.Proofs.YtgjeiddccfmodaaW.PrintMore
attribute [local go_sem] max2_int min2_int max_two min_two max_three min_three max_four min_four   -- for this text's walks alone
set_option linter.unusedVariables false
set_option linter.unusedSimpArgs false
attribute [local irreducible] Calls

/-! ### mapmakerlaw09_SegFars: function 4 -/
def mapmakerlaw09_SegFars.f (k : Nat) (a0_0 : Int) (a0_1 : Int) (a1_0 : Int) (a1_1 : Int) (a2_0 : Int) (a2_1 : Int) (a3 : Int) (a4 : Int) (a5 : Int) (a6 : Int) : Option (Bool) := (seg_Far.f k a0_0 a0_1 a1_0 a1_1 a2_0 a2_1).bind fun bt298 => ((mapmakerref09_Far.f k a0_0 a0_1 a1_0 a1_1 a2_0 a2_1).bind fun bt300 => (if bt298.1 = bt300.1 then (if bt298.2 = bt300.2 then ((seg_Nearer.f k a3 a4 a5 a6).bind fun t302 => ((mapmakerref09_Nearer.f k a3 a4 a5 a6).bind fun t303 => (if t302 = t303 then ((seg_Nearer.f k bt298.1 bt298.2 a3 a4).bind fun t304 => ((mapmakerref09_Nearer.f k bt298.1 bt298.2 a3 a4).bind fun t305 => (if t304 = t305 then ((mapmakerlaw09_lives.f k).bind fun t306 => (some t306)) else (none)))) else (none)))) else (none)) else (none)))
theorem mapmakerlaw09_SegFars.mono : ∀ a0 a1 a2 a3 a4 a5 a6 a7 a8 a9 k, LeO (mapmakerlaw09_SegFars.f k a0 a1 a2 a3 a4 a5 a6 a7 a8 a9) (mapmakerlaw09_SegFars.f (k + 1) a0 a1 a2 a3 a4 a5 a6 a7 a8 a9) := by
 intro a0 a1 a2 a3 a4 a5 a6 a7 a8 a9 k
 unfold mapmakerlaw09_SegFars.f
 repeat' first
   | (with_reducible exact mapmakerlaw09_lives.mono _)
   | (with_reducible exact mapmakerref09_Far.mono _ _ _ _ _ _ _)
   | (with_reducible exact mapmakerref09_Nearer.mono _ _ _ _ _)
   | (with_reducible exact seg_Far.mono _ _ _ _ _ _ _)
   | (with_reducible exact seg_Nearer.mono _ _ _ _ _)
   | (with_reducible exact LeO.refl _)
   | (with_reducible exact LeO.none _)
   | (with_reducible refine LeO.ite ?_ ?_)
   | (with_reducible refine LeO.bind ?_ (fun _ => ?_))
   | exact mapmakerlaw09_lives.mono _
   | exact mapmakerref09_Far.mono _ _ _ _ _ _ _
   | exact mapmakerref09_Nearer.mono _ _ _ _ _
   | exact seg_Far.mono _ _ _ _ _ _ _
   | exact seg_Nearer.mono _ _ _ _ _
   | exact LeO.none _
   | refine LeO.ite ?_ ?_
   | refine LeO.bind ?_ (fun _ => ?_)
set_option maxHeartbeats 8000000 in
set_option maxRecDepth 100000 in
theorem mapmakerlaw09_SegFars.calls (k : Nat) (a0_0 : Int) (a0_1 : Int) (a1_0 : Int) (a1_1 : Int) (a2_0 : Int) (a2_1 : Int) (a3 : Int) (a4 : Int) (a5 : Int) (a6 : Int) (r : Bool) (w : World) (h : mapmakerlaw09_SegFars.f k a0_0 a0_1 a1_0 a1_1 a2_0 a2_1 a3 a4 a5 a6 = some r) :
  Calls Try.prog 4 #[.agg #[.int .i64 a0_0, .int .i64 a0_1], .agg #[.int .i64 a1_0, .int .i64 a1_1], .agg #[.int .i64 a2_0, .int .i64 a2_1], .int .i64 a3, .int .i64 a4, .int .i64 a5, .int .i64 a6] w fun e w' => e = .returned (.bool r) ∧ Below w.heap.size w w' := by
 have hu23 := Try.underlying23
 have HB := Aside0.mk (Below.refl w.heap.size w)
 have H : ((seg_Far.f k a0_0 a0_1 a1_0 a1_1 a2_0 a2_1).bind fun bt298 => ((mapmakerref09_Far.f k a0_0 a0_1 a1_0 a1_1 a2_0 a2_1).bind fun bt300 => (if bt298.1 = bt300.1 then (if bt298.2 = bt300.2 then ((seg_Nearer.f k a3 a4 a5 a6).bind fun t302 => ((mapmakerref09_Nearer.f k a3 a4 a5 a6).bind fun t303 => (if t302 = t303 then ((seg_Nearer.f k bt298.1 bt298.2 a3 a4).bind fun t304 => ((mapmakerref09_Nearer.f k bt298.1 bt298.2 a3 a4).bind fun t305 => (if t304 = t305 then ((mapmakerlaw09_lives.f k).bind fun t306 => (some t306)) else (none)))) else (none)))) else (none)) else (none)))) = some r := h
 clear h
 replace H := Option.bind_eq_some_iff.mp H
 obtain ⟨⟨t298, t299⟩, A80, H⟩ := H
 replace H : ((mapmakerref09_Far.f k a0_0 a0_1 a1_0 a1_1 a2_0 a2_1).bind fun bt300 => (if t298 = bt300.1 then (if t299 = bt300.2 then ((seg_Nearer.f k a3 a4 a5 a6).bind fun t302 => ((mapmakerref09_Nearer.f k a3 a4 a5 a6).bind fun t303 => (if t302 = t303 then ((seg_Nearer.f k t298 t299 a3 a4).bind fun t304 => ((mapmakerref09_Nearer.f k t298 t299 a3 a4).bind fun t305 => (if t304 = t305 then ((mapmakerlaw09_lives.f k).bind fun t306 => (some t306)) else (none)))) else (none)))) else (none)) else (none))) = some r := H
 have A8 := Aside0.mk A80
 clear A80
 replace H := Option.bind_eq_some_iff.mp H
 obtain ⟨⟨t300, t301⟩, A90, H⟩ := H
 replace H : (if t298 = t300 then (if t299 = t301 then ((seg_Nearer.f k a3 a4 a5 a6).bind fun t302 => ((mapmakerref09_Nearer.f k a3 a4 a5 a6).bind fun t303 => (if t302 = t303 then ((seg_Nearer.f k t298 t299 a3 a4).bind fun t304 => ((mapmakerref09_Nearer.f k t298 t299 a3 a4).bind fun t305 => (if t304 = t305 then ((mapmakerlaw09_lives.f k).bind fun t306 => (some t306)) else (none)))) else (none)))) else (none)) else (none)) = some r := H
 have A9 := Aside0.mk A90
 clear A90
 by_cases c10 : t298 = t300
 ·rw [if_pos c10] at H
  have c10b0 : (t298 == t300) = true := beq_iff_eq.mpr c10
  have c10b1 : (t298 != t300) = false := bne_eq_false_iff_eq.mpr c10
  clear c10
  by_cases c11 : t299 = t301
  ·rw [if_pos c11] at H
   have c11b0 : (t299 == t301) = true := beq_iff_eq.mpr c11
   have c11b1 : (t299 != t301) = false := bne_eq_false_iff_eq.mpr c11
   clear c11
   replace H := Option.bind_eq_some_iff.mp H
   obtain ⟨t302, A120, H⟩ := H
   replace H : ((mapmakerref09_Nearer.f k a3 a4 a5 a6).bind fun t303 => (if t302 = t303 then ((seg_Nearer.f k t298 t299 a3 a4).bind fun t304 => ((mapmakerref09_Nearer.f k t298 t299 a3 a4).bind fun t305 => (if t304 = t305 then ((mapmakerlaw09_lives.f k).bind fun t306 => (some t306)) else (none)))) else (none))) = some r := H
   have A12 := Aside0.mk A120
   clear A120
   replace H := Option.bind_eq_some_iff.mp H
   obtain ⟨t303, A130, H⟩ := H
   replace H : (if t302 = t303 then ((seg_Nearer.f k t298 t299 a3 a4).bind fun t304 => ((mapmakerref09_Nearer.f k t298 t299 a3 a4).bind fun t305 => (if t304 = t305 then ((mapmakerlaw09_lives.f k).bind fun t306 => (some t306)) else (none)))) else (none)) = some r := H
   have A13 := Aside0.mk A130
   clear A130
   by_cases c14 : t302 = t303
   ·rw [if_pos c14] at H
    have c14b0 : (t302 == t303) = true := beq_iff_eq.mpr c14
    have c14b1 : (t302 != t303) = false := bne_eq_false_iff_eq.mpr c14
    clear c14
    replace H := Option.bind_eq_some_iff.mp H
    obtain ⟨t304, A150, H⟩ := H
    replace H : ((mapmakerref09_Nearer.f k t298 t299 a3 a4).bind fun t305 => (if t304 = t305 then ((mapmakerlaw09_lives.f k).bind fun t306 => (some t306)) else (none))) = some r := H
    have A15 := Aside0.mk A150
    clear A150
    replace H := Option.bind_eq_some_iff.mp H
    obtain ⟨t305, A160, H⟩ := H
    replace H : (if t304 = t305 then ((mapmakerlaw09_lives.f k).bind fun t306 => (some t306)) else (none)) = some r := H
    have A16 := Aside0.mk A160
    clear A160
    by_cases c17 : t304 = t305
    ·rw [if_pos c17] at H
     have c17b0 : (t304 == t305) = true := beq_iff_eq.mpr c17
     have c17b1 : (t304 != t305) = false := bne_eq_false_iff_eq.mpr c17
     clear c17
     replace H := Option.bind_eq_some_iff.mp H
     obtain ⟨t306, A180, H⟩ := H
     replace H : (some t306) = some r := H
     have A18 := Aside0.mk A180
     clear A180
     obtain rfl := Option.some.inj H
     go_enter Try.func4, Try.ntmps4
     go_wp2_with (first | ((with_reducible refine gate_dst (N := 7) rfl ?_); refine box_event ?hg (N := 7) ?hd (cs := #[.int .i64 a0_0, .int .i64 a0_1]) (t := 23) ?hr ?_; (case hd => rfl); (case hg => rfl); (case hr => first | (go_simp; done) | (go_simp; rfl)); intro gb295 hg w19 hbox hb; have n0_ := Aside0.mk (below_step (by repeat (first | (with_reducible first | exact HB.out | apply below_alloc | apply pw_below_drewN | apply below_drew1) | exact HB.out)) hb); have n1_ := Aside0.mk (hbox); have n2_ := Aside0.mk ((by rw [hg]; exact (below_size (by repeat (first | (with_reducible first | exact HB.out | apply below_alloc | apply pw_below_drewN | apply below_drew1) | exact HB.out))) : w.heap.size ≤ gb295)); have n3_ := n2_; clear HB; have HB := n0_; have BK295 := n1_; have GW295 := n2_; have GE295 := n3_; clear n0_ n1_ n2_ n3_ hb hbox hg) | ((with_reducible refine gate_dst (N := 8) rfl ?_); refine box_event ?hg (N := 8) ?hd (cs := #[.int .i64 a1_0, .int .i64 a1_1]) (t := 23) ?hr ?_; (case hd => rfl); (case hg => rfl); (case hr => first | (go_simp; done) | (go_simp; rfl)); intro gb296 hg w20 hbox hb; have n0_ := Aside0.mk (blk_below (by (with_reducible repeat first | apply blk_drewN | apply blk_drew | apply blk_alloc); exact BK295.out) hb); have n1_ := Aside0.mk (below_step (by repeat (first | (with_reducible first | exact HB.out | apply below_alloc | apply pw_below_drewN | apply below_drew1 | refine below_set ?_ GE295.out) | exact HB.out)) hb); have n2_ := Aside0.mk (hbox); have n3_ := Aside0.mk ((by rw [hg]; exact (below_size (by repeat (first | (with_reducible first | exact HB.out | apply below_alloc | apply pw_below_drewN | apply below_drew1 | refine below_set ?_ GE295.out) | exact HB.out))) : w.heap.size ≤ gb296)); have n4_ := n3_; have n5_ := Aside0.mk ((by rw [hg]; exact Nat.ne_of_lt (blk_lt (by (with_reducible repeat first | apply blk_drewN | apply blk_drew | apply blk_alloc); exact BK295.out)) : gb295 ≠ gb296)); have n6_ : Aside0 (gb296 ≠ gb295) := ⟨Ne.symm n5_.out⟩; clear BK295 HB; have BK295 := n0_; have HB := n1_; have BK296 := n2_; have GW296 := n3_; have GE296 := n4_; have NB295_296 := n5_; have NB296_295 := n6_; clear n0_ n1_ n2_ n3_ n4_ n5_ n6_ hb hbox hg) | ((with_reducible refine gate_dst (N := 9) rfl ?_); refine box_event ?hg (N := 9) ?hd (cs := #[.int .i64 a2_0, .int .i64 a2_1]) (t := 23) ?hr ?_; (case hd => rfl); (case hg => rfl); (case hr => first | (go_simp; done) | (go_simp; rfl)); intro gb297 hg w21 hbox hb; have n0_ := Aside0.mk (blk_below (by (with_reducible repeat first | apply blk_drewN | apply blk_drew | apply blk_alloc); exact BK295.out) hb); have n1_ := Aside0.mk (blk_below (by (with_reducible repeat first | apply blk_drewN | apply blk_drew | apply blk_alloc); exact BK296.out) hb); have n2_ := Aside0.mk (below_step (by repeat (first | (with_reducible first | exact HB.out | apply below_alloc | apply pw_below_drewN | apply below_drew1 | refine below_set ?_ GE295.out | refine below_set ?_ GE296.out) | exact HB.out)) hb); have n3_ := Aside0.mk (hbox); have n4_ := Aside0.mk ((by rw [hg]; exact (below_size (by repeat (first | (with_reducible first | exact HB.out | apply below_alloc | apply pw_below_drewN | apply below_drew1 | refine below_set ?_ GE295.out | refine below_set ?_ GE296.out) | exact HB.out))) : w.heap.size ≤ gb297)); have n5_ := n4_; have n6_ := Aside0.mk ((by rw [hg]; exact Nat.ne_of_lt (blk_lt (by (with_reducible repeat first | apply blk_drewN | apply blk_drew | apply blk_alloc); exact BK295.out)) : gb295 ≠ gb297)); have n7_ : Aside0 (gb297 ≠ gb295) := ⟨Ne.symm n6_.out⟩; have n8_ := Aside0.mk ((by rw [hg]; exact Nat.ne_of_lt (blk_lt (by (with_reducible repeat first | apply blk_drewN | apply blk_drew | apply blk_alloc); exact BK296.out)) : gb296 ≠ gb297)); have n9_ : Aside0 (gb297 ≠ gb296) := ⟨Ne.symm n8_.out⟩; clear BK295 BK296 HB; have BK295 := n0_; have BK296 := n1_; have HB := n2_; have BK297 := n3_; have GW297 := n4_; have GE297 := n5_; have NB295_297 := n6_; have NB297_295 := n7_; have NB296_297 := n8_; have NB297_296 := n9_; clear n0_ n1_ n2_ n3_ n4_ n5_ n6_ n7_ n8_ n9_ hb hbox hg; have hnb22 := NB295_296.out; have hnc22 := NB296_295.out; have hnb23 := NB295_297.out; have hnc23 := NB297_295.out; have hcz24_0 : w21.cell? ⟨gb295, 0, none⟩ = some (.int .i64 a0_0) := (blk_cell BK295.out 0).trans rfl; have hcz24_1 : w21.cell? ⟨gb295, 1, none⟩ = some (.int .i64 a0_1) := (blk_cell BK295.out 1).trans rfl; have hfz24_0 := blk_frozen BK295.out 0; have hfz24_1 := blk_frozen BK295.out 1; have hnb25 := NB296_297.out; have hnc25 := NB297_296.out; have hcz26_0 : w21.cell? ⟨gb296, 0, none⟩ = some (.int .i64 a1_0) := (blk_cell BK296.out 0).trans rfl; have hcz26_1 : w21.cell? ⟨gb296, 1, none⟩ = some (.int .i64 a1_1) := (blk_cell BK296.out 1).trans rfl; have hfz26_0 := blk_frozen BK296.out 0; have hfz26_1 := blk_frozen BK296.out 1; have hcz27_0 : w21.cell? ⟨gb297, 0, none⟩ = some (.int .i64 a2_0) := (blk_cell BK297.out 0).trans rfl; have hcz27_1 : w21.cell? ⟨gb297, 1, none⟩ = some (.int .i64 a2_1) := (blk_cell BK297.out 1).trans rfl; have hfz27_0 := blk_frozen BK297.out 0; have hfz27_1 := blk_frozen BK297.out 1) | ((with_reducible refine gate_callee (f := 12) rfl ?_); refine goesL_ (some 23) rfl rfl Try.func12 (by kernel_rfl) rfl #[.agg #[.int .i64 a0_0, .int .i64 a0_1], .agg #[.int .i64 a1_0, .int .i64 a1_1], .agg #[.int .i64 a2_0, .int .i64 a2_1]] rfl (by (try simp only [List.map_toArray, List.map_cons, List.map_nil]); first | done | rfl | (simp only [List.length_drop, List.length_take]; rfl)) ?_; (with_reducible refine (seg_Far.calls k a0_0 a0_1 a1_0 a1_1 a2_0 a2_1 t298 t299 _ A8.out).mono ?_); rintro e w28 ⟨rfl, hb⟩; refine ⟨_, rfl, ?_⟩; have n0_ := Aside0.mk (blk_below (by (with_reducible repeat first | apply blk_drewN | apply blk_drew | apply blk_alloc); exact BK295.out) hb); have n1_ := Aside0.mk (blk_below (by (with_reducible repeat first | apply blk_drewN | apply blk_drew | apply blk_alloc); exact BK296.out) hb); have n2_ := Aside0.mk (blk_below (by (with_reducible repeat first | apply blk_drewN | apply blk_drew | apply blk_alloc); exact BK297.out) hb); have n3_ := Aside0.mk (below_step (by repeat (first | (with_reducible first | exact HB.out | apply below_alloc | apply pw_below_drewN | apply below_drew1 | refine below_set ?_ GE295.out | refine below_set ?_ GE296.out | refine below_set ?_ GE297.out) | exact HB.out)) hb); clear BK295 BK296 BK297 HB; have BK295 := n0_; have BK296 := n1_; have BK297 := n2_; have HB := n3_; clear n0_ n1_ n2_ n3_; (try clear hb); (try clear hb2); (try clear hk); (try clear hi); have hcz29_0 : w28.cell? ⟨gb295, 0, none⟩ = some (.int .i64 a0_0) := (blk_cell BK295.out 0).trans rfl; have hcz29_1 : w28.cell? ⟨gb295, 1, none⟩ = some (.int .i64 a0_1) := (blk_cell BK295.out 1).trans rfl; have hfz29_0 := blk_frozen BK295.out 0; have hfz29_1 := blk_frozen BK295.out 1; have hcz30_0 : w28.cell? ⟨gb296, 0, none⟩ = some (.int .i64 a1_0) := (blk_cell BK296.out 0).trans rfl; have hcz30_1 : w28.cell? ⟨gb296, 1, none⟩ = some (.int .i64 a1_1) := (blk_cell BK296.out 1).trans rfl; have hfz30_0 := blk_frozen BK296.out 0; have hfz30_1 := blk_frozen BK296.out 1; have hcz31_0 : w28.cell? ⟨gb297, 0, none⟩ = some (.int .i64 a2_0) := (blk_cell BK297.out 0).trans rfl; have hcz31_1 : w28.cell? ⟨gb297, 1, none⟩ = some (.int .i64 a2_1) := (blk_cell BK297.out 1).trans rfl; have hfz31_0 := blk_frozen BK297.out 0; have hfz31_1 := blk_frozen BK297.out 1) | ((with_reducible refine gate_callee (f := 13) rfl ?_); refine goesL_ (some 30) rfl rfl Try.func13 (by kernel_rfl) rfl #[.agg #[.int .i64 a0_0, .int .i64 a0_1], .agg #[.int .i64 a1_0, .int .i64 a1_1], .agg #[.int .i64 a2_0, .int .i64 a2_1]] rfl (by (try simp only [List.map_toArray, List.map_cons, List.map_nil]); first | done | rfl | (simp only [List.length_drop, List.length_take]; rfl)) ?_; (with_reducible refine (mapmakerref09_Far.calls k a0_0 a0_1 a1_0 a1_1 a2_0 a2_1 t300 t301 _ A9.out).mono ?_); rintro e w32 ⟨rfl, hb⟩; refine ⟨_, rfl, ?_⟩; have n0_ := Aside0.mk (blk_below (by (with_reducible repeat first | apply blk_drewN | apply blk_drew | apply blk_alloc); exact BK295.out) hb); have n1_ := Aside0.mk (blk_below (by (with_reducible repeat first | apply blk_drewN | apply blk_drew | apply blk_alloc); exact BK296.out) hb); have n2_ := Aside0.mk (blk_below (by (with_reducible repeat first | apply blk_drewN | apply blk_drew | apply blk_alloc); exact BK297.out) hb); have n3_ := Aside0.mk (below_step (by repeat (first | (with_reducible first | exact HB.out | apply below_alloc | apply pw_below_drewN | apply below_drew1 | refine below_set ?_ GE295.out | refine below_set ?_ GE296.out | refine below_set ?_ GE297.out) | exact HB.out)) hb); clear BK295 BK296 BK297 HB; have BK295 := n0_; have BK296 := n1_; have BK297 := n2_; have HB := n3_; clear n0_ n1_ n2_ n3_; (try clear hb); (try clear hb2); (try clear hk); (try clear hi)) | (go_at_call 14; (with_reducible refine (seg_Nearer.calls k a3 a4 a5 a6 t302 _ A12.out).mono ?_); rintro e w33 ⟨rfl, hb⟩; have n0_ := Aside0.mk (blk_below (by (with_reducible repeat first | apply blk_drewN | apply blk_drew | apply blk_alloc); exact BK295.out) hb); have n1_ := Aside0.mk (blk_below (by (with_reducible repeat first | apply blk_drewN | apply blk_drew | apply blk_alloc); exact BK296.out) hb); have n2_ := Aside0.mk (blk_below (by (with_reducible repeat first | apply blk_drewN | apply blk_drew | apply blk_alloc); exact BK297.out) hb); have n3_ := Aside0.mk (below_step (by repeat (first | (with_reducible first | exact HB.out | apply below_alloc | apply pw_below_drewN | apply below_drew1 | refine below_set ?_ GE295.out | refine below_set ?_ GE296.out | refine below_set ?_ GE297.out) | exact HB.out)) hb); clear BK295 BK296 BK297 HB; have BK295 := n0_; have BK296 := n1_; have BK297 := n2_; have HB := n3_; clear n0_ n1_ n2_ n3_; (try clear hb); (try clear hb2); (try clear hk); (try clear hi)) | (go_at_call 15; (with_reducible refine (mapmakerref09_Nearer.calls k a3 a4 a5 a6 t303 _ A13.out).mono ?_); rintro e w' ⟨rfl, ⟨nd, rfl⟩⟩) | (go_at_call 14; (with_reducible refine (seg_Nearer.calls k t298 t299 a3 a4 t304 _ A15.out).mono ?_); rintro e w34 ⟨rfl, hb⟩; have n0_ := Aside0.mk (blk_below (by (with_reducible repeat first | apply blk_drewN | apply blk_drew | apply blk_alloc); exact BK295.out) hb); have n1_ := Aside0.mk (blk_below (by (with_reducible repeat first | apply blk_drewN | apply blk_drew | apply blk_alloc); exact BK296.out) hb); have n2_ := Aside0.mk (blk_below (by (with_reducible repeat first | apply blk_drewN | apply blk_drew | apply blk_alloc); exact BK297.out) hb); have n3_ := Aside0.mk (below_step (by repeat (first | (with_reducible first | exact HB.out | apply below_alloc | apply pw_below_drewN | apply below_drew1 | refine below_set ?_ GE295.out | refine below_set ?_ GE296.out | refine below_set ?_ GE297.out) | exact HB.out)) hb); clear BK295 BK296 BK297 HB; have BK295 := n0_; have BK296 := n1_; have BK297 := n2_; have HB := n3_; clear n0_ n1_ n2_ n3_; (try clear hb); (try clear hb2); (try clear hk); (try clear hi)) | (go_at_call 15; (with_reducible refine (mapmakerref09_Nearer.calls k t298 t299 a3 a4 t305 _ A16.out).mono ?_); rintro e w' ⟨rfl, ⟨nd, rfl⟩⟩) | (go_at_call 11; (with_reducible refine (mapmakerlaw09_lives.calls k  t306 _ A18.out).mono ?_); rintro e w35 ⟨rfl, hb⟩; have n0_ := Aside0.mk (blk_below (by (with_reducible repeat first | apply blk_drewN | apply blk_drew | apply blk_alloc); exact BK295.out) hb); have n1_ := Aside0.mk (blk_below (by (with_reducible repeat first | apply blk_drewN | apply blk_drew | apply blk_alloc); exact BK296.out) hb); have n2_ := Aside0.mk (blk_below (by (with_reducible repeat first | apply blk_drewN | apply blk_drew | apply blk_alloc); exact BK297.out) hb); have n3_ := Aside0.mk (below_step (by repeat (first | (with_reducible first | exact HB.out | apply below_alloc | apply pw_below_drewN | apply below_drew1 | refine below_set ?_ GE295.out | refine below_set ?_ GE296.out | refine below_set ?_ GE297.out) | exact HB.out)) hb); clear BK295 BK296 BK297 HB; have BK295 := n0_; have BK296 := n1_; have BK297 := n2_; have HB := n3_; clear n0_ n1_ n2_ n3_; (try clear hb); (try clear hb2); (try clear hk); (try clear hi)))
     go_ret
     exact ⟨by first | rfl | (simp [errW_none, errW_some] <;> rfl) | (simp [*, errW_none, errW_some] <;> rfl), by repeat (first | (with_reducible first | exact HB.out | apply below_alloc | apply pw_below_drewN | apply below_drew1 | refine below_set ?_ GE295.out | refine below_set ?_ GE296.out | refine below_set ?_ GE297.out) | exact HB.out)⟩
    ·rw [if_neg c17] at H
     exact absurd H (by simp)
   ·rw [if_neg c14] at H
    exact absurd H (by simp)
  ·rw [if_neg c11] at H
   exact absurd H (by simp)
 ·rw [if_neg c10] at H
  exact absurd H (by simp)

/-- THE ONE PURE STATEMENT of mapmakerlaw09_SegFars. -/
def mapmakerlaw09_SegFars.Pure : Prop := ∀ (a0_0 : Int) (a0_1 : Int) (a1_0 : Int) (a1_1 : Int) (a2_0 : Int) (a2_1 : Int) (a3 : Int) (a4 : Int) (a5 : Int) (a6 : Int), ((Lit.int .i64 a0_0).wf = true ∧ (Lit.int .i64 a0_1).wf = true) → ((Lit.int .i64 a1_0).wf = true ∧ (Lit.int .i64 a1_1).wf = true) → ((Lit.int .i64 a2_0).wf = true ∧ (Lit.int .i64 a2_1).wf = true) → ((Lit.int .i64 a3).wf = true) → ((Lit.int .i64 a4).wf = true) → ((Lit.int .i64 a5).wf = true) → ((Lit.int .i64 a6).wf = true) → ∃ k, mapmakerlaw09_SegFars.f k a0_0 a0_1 a1_0 a1_1 a2_0 a2_1 a3 a4 a5 a6 = some true

end Go.Proofs.Ytgjeiddccfmodaa.PAll
