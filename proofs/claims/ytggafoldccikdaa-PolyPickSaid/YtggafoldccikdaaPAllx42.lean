import Derived.Test.YtggafoldccikdaaPAllx0
import Derived.Test.YtggafoldccikdaaPAllx1
namespace Go.Proofs.Ytggafoldccikdaa.PAll
open Go.RowKit Go.Proofs.YtggafoldccikdaaW.PrintWords Go.Proofs.YtggafoldccikdaaW.PrintLast Go.Proofs.YtggafoldccikdaaW.PrintMore
attribute [local go_sem] max2_int min2_int max_two min_two max_three min_three max_four min_four
set_option linter.unusedVariables false
set_option linter.unusedSimpArgs false
attribute [local irreducible] Calls

/-! ### mapmakerref08_Box: function 19 -/
mutual
def mapmakerref08_Box.j0 : Nat → List (S30) → Bool → Option (Int × Int × Int × Int × Bool)
 | 0, _, _ => none
 | k + 1, x0, x14 => if x14 = true then (some (0, 0, 0, 0, false)) else (if 0 < (x0.length : Int) then (mapmakerref08_Box.l0 k x0 1 ((rd_T30 x0 0).f0) ((rd_T30 x0 0).f1) ((rd_T30 x0 0).f0) ((rd_T30 x0 0).f1)) else (none))
def mapmakerref08_Box.l0 : Nat → List (S30) → Int → Int → Int → Int → Int → Option (Int × Int × Int × Int × Bool)
 | 0, _, _, _, _, _, _ => none
 | k + 1, x0, x5, x353000, x353001, x353002, x353003 => if x5 < (x0.length : Int) then (if 0 ≤ x5 then (mapmakerref08_Box.l0 k x0 (wrap64 (x5 + 1)) (mn x353000 ((rd_T30 x0 x5).f0)) (mn x353001 ((rd_T30 x0 x5).f1)) (mx x353002 ((rd_T30 x0 x5).f0)) (mx x353003 ((rd_T30 x0 x5).f1))) else (none)) else (some (x353000, x353001, x353002, x353003, true))
end
def mapmakerref08_Box.f (k : Nat) (l0 : List (S30)) : Option (Int × Int × Int × Int × Bool) := if (l0.length : Int) = 0 then (mapmakerref08_Box.j0 k l0 true) else ((mapmakerref08_All.f k l0).bind fun t347 => (mapmakerref08_Box.j0 k l0 (!t347)))
theorem mapmakerref08_Box.mono_l : ∀ k, (∀ y0 y1, LeO (mapmakerref08_Box.j0 k y0 y1) (mapmakerref08_Box.j0 (k + 1) y0 y1)) ∧ (∀ y0 y1 y2 y3 y4 y5, LeO (mapmakerref08_Box.l0 k y0 y1 y2 y3 y4 y5) (mapmakerref08_Box.l0 (k + 1) y0 y1 y2 y3 y4 y5))
 | 0 => ⟨fun _ _ r h => by simp [mapmakerref08_Box.j0] at h, fun _ _ _ _ _ _ r h => by simp [mapmakerref08_Box.l0] at h⟩
 | k + 1 => by
  obtain ⟨ih0, ih1⟩ := mapmakerref08_Box.mono_l k
  refine ⟨?_, ?_⟩
  ·intro y0 y1
   unfold mapmakerref08_Box.j0
   repeat' first
   | (with_reducible exact ih0 _ _)
   | (with_reducible exact ih1 _ _ _ _ _ _)
   | (with_reducible exact mapmakerref08_All.mono _ _)
   | (with_reducible exact LeO.refl _)
   | (with_reducible exact LeO.none _)
   | (with_reducible refine LeO.ite ?_ ?_)
   | (with_reducible refine LeO.bind ?_ (fun _ => ?_))
   | exact ih0 _ _
   | exact ih1 _ _ _ _ _ _
   | exact mapmakerref08_All.mono _ _
   | exact LeO.none _
   | refine LeO.ite ?_ ?_
   | refine LeO.bind ?_ (fun _ => ?_)
  ·intro y0 y1 y2 y3 y4 y5
   unfold mapmakerref08_Box.l0
   repeat' first
   | (with_reducible exact ih0 _ _)
   | (with_reducible exact ih1 _ _ _ _ _ _)
   | (with_reducible exact mapmakerref08_All.mono _ _)
   | (with_reducible exact LeO.refl _)
   | (with_reducible exact LeO.none _)
   | (with_reducible refine LeO.ite ?_ ?_)
   | (with_reducible refine LeO.bind ?_ (fun _ => ?_))
   | exact ih0 _ _
   | exact ih1 _ _ _ _ _ _
   | exact mapmakerref08_All.mono _ _
   | exact LeO.none _
   | refine LeO.ite ?_ ?_
   | refine LeO.bind ?_ (fun _ => ?_)
theorem mapmakerref08_Box.mono : ∀ a0 k, LeO (mapmakerref08_Box.f k a0) (mapmakerref08_Box.f (k + 1) a0) := by
 intro a0 k
 obtain ⟨ih0, ih1⟩ := mapmakerref08_Box.mono_l k
 unfold mapmakerref08_Box.f
 repeat' first
   | (with_reducible exact ih0 _ _)
   | (with_reducible exact ih1 _ _ _ _ _ _)
   | (with_reducible exact mapmakerref08_All.mono _ _)
   | (with_reducible exact LeO.refl _)
   | (with_reducible exact LeO.none _)
   | (with_reducible refine LeO.ite ?_ ?_)
   | (with_reducible refine LeO.bind ?_ (fun _ => ?_))
   | exact ih0 _ _
   | exact ih1 _ _ _ _ _ _
   | exact mapmakerref08_All.mono _ _
   | exact LeO.none _
   | refine LeO.ite ?_ ?_
   | refine LeO.bind ?_ (fun _ => ?_)
def mapmakerref08_Box.T3 : Bool × List (List Nat × List Nat) := (true, [([], []), ([0], [0]), ([1], [1]), ([2], [2]), ([], []), ([4], [4]), ([5], [5]), ([6], [6]), ([], []), ([8], [8]), ([9], [9]), ([10], [10]), ([], []), ([12], [12]), ([13], [13]), ([14], [14]), ([3, 7, 11, 15], [3, 7, 11, 15]), ([], []), ([17, 16, 0, 1, 2, 3, 4, 5, 6, 7, 8, 9, 10, 11, 12, 13, 14, 15, 16, 17], [16, 17])])
def mapmakerref08_Box.B3 : List Nat := [0, 1, 3, 7, 0, 16, 48, 112, 0, 256, 768, 1792, 0, 4096, 12288, 28672, 65535, 0, 262143]
theorem mapmakerref08_Box.tab3 : rtab .any (opsOf Try.f19 3) = mapmakerref08_Box.T3 := by kernel_rfl
theorem mapmakerref08_Box.bits3 : waitsOk mapmakerref08_Box.T3.2 mapmakerref08_Box.B3 = true := by kernel_rfl
set_option maxHeartbeats 8000000 in
set_option maxRecDepth 100000 in
theorem mapmakerref08_Box.calls (k : Nat) (A0 : Option Addr) (c0 : Nat) (l0 : List (S30)) (r1 : Int) (r2 : Int) (r3 : Int) (r4 : Int) (r5 : Bool) (w : World) (hr0 : Kd.C k30 w A0 l0.length l0) (hc0 : l0.length ≤ c0) (h : mapmakerref08_Box.f k l0 = some (r1, r2, r3, r4, r5)) :
  Calls Try.prog 19 #[.slice A0 l0.length c0] w fun e w' => e = .returned (.tuple #[.agg #[.int .i64 r1, .int .i64 r2, .int .i64 r3, .int .i64 r4], .bool r5]) ∧ Below w.heap.size w w' := by
 have hu34 := Try.underlying34; have hu30 := Try.underlying30; have HR0 := Aside0.mk hr0; have HC0 := Aside0.mk hc0; clear hr0 hc0; have HB := Aside0.mk (Below.refl w.heap.size w); have H : (if (l0.length : Int) = 0 then (mapmakerref08_Box.j0 k l0 true) else ((mapmakerref08_All.f k l0).bind fun t347 => (mapmakerref08_Box.j0 k l0 (!t347)))) = some (r1, r2, r3, r4, r5) := h; clear h; have HC2 := Aside0.mk H; clear H
 go_enter Try.func19, Try.ntmps19
 go_upto_region 1 with (first | ((with_reducible refine gate_dst (N := 2) rfl ?_); refine box_event ?hg (N := 2) ?hd (cs := #[.int .i64 0, .int .i64 0, .int .i64 0, .int .i64 0]) (t := 34) ?hr ?_; (case hd => rfl); (case hg => rfl); (case hr => first | (go_simp; done) | (go_simp; rfl)); intro gb346 hg w3 hbox hb; have n0_ := Aside0.mk (below_step (by repeat with_reducible first | exact HB.out | apply below_alloc | apply pw_below_drewN | apply below_drew1) hb); have n1_ := Aside0.mk (hbox); have n2_ := Aside0.mk ((by rw [hg]; exact (below_size (by repeat with_reducible first | exact HB.out | apply below_alloc | apply pw_below_drewN | apply below_drew1)) : w.heap.size ≤ gb346)); have n3_ := n2_; clear HB; have HB := n0_; have BK346 := n1_; have GW346 := n2_; have GE346 := n3_; clear n0_ n1_ n2_ n3_ hb hbox hg))
 (try simp only [Act.put, List.setIfInBounds_toArray, List.set_cons_zero, List.set_cons_succ])
 go_cut [14] (fun v14 wc => ∃ (kq : Nat) (x14_1 : Bool), v14 = .bool x14_1 ∧ Aside0 (mapmakerref08_Box.j0 kq l0 x14_1 = some (r1, r2, r3, r4, r5)) ∧ Aside0 (kq ≤ k) ∧ Aside0 (wc.heap[gb346]? = some (.cells #[.int .i64 0, .int .i64 0, .int .i64 0, .int .i64 0] 34 (0, 0))) ∧ Aside0 (Below w.heap.size w wc))
 case first =>
  have H := HC2.out; clear HC2
  by_cases c4 : (l0.length : Int) = 0
  ·rw [if_pos c4] at H
   have c4b0 : ((l0.length : Int) == 0) = true := beq_iff_eq.mpr c4; have c4b1 : ((l0.length : Int) != 0) = false := bne_eq_false_iff_eq.mpr c4; clear c4; (first | rw [c4b0] | (simp only [i64_w, i32_w]; rw [c4b0]) | skip); have H' := Aside0.mk H; clear H
   go_wp2
   go_meet
   case rel => exact ⟨_, (true), (by first | rfl | (simp; done) | (simp [*]; done)), H', ⟨by first | omega | exact Nat.le_refl _⟩, ⟨by (with_reducible repeat first | apply blk_drewN | apply blk_drew | apply blk_alloc); exact BK346.out⟩, ⟨by repeat with_reducible first | exact HB.out | apply below_alloc | apply pw_below_drewN | apply below_drew1 | refine below_set ?_ GE346.out⟩⟩
  ·rw [if_neg c4] at H
   have c4b0 : ((l0.length : Int) == 0) = false := beq_eq_false_iff_ne.mpr c4; have c4b1 : ((l0.length : Int) != 0) = true := bne_iff_ne.mpr c4; have c4b2 : ¬ (l0 = []) := fun h_ => c4 (by rw [h_]; rfl)
   (first | rw [c4b0] | (simp only [i64_w, i32_w]; rw [c4b0]) | skip); replace H := Option.bind_eq_some_iff.mp H; obtain ⟨t347, A50, H⟩ := H; replace H : (mapmakerref08_Box.j0 k l0 (!t347)) = some (r1, r2, r3, r4, r5) := H; have A5 := Aside0.mk A50; clear A50; have H' := Aside0.mk H; clear H
   go_wp2_with (first | (go_at_call 31; (with_reducible refine (mapmakerref08_All.calls k _ _ l0 t347 _ ?side1 ?side2 A5.out).mono ?_); (case side1 => repeat (first | exact (Kd.C_below HR0.out HB.out) | (with_reducible refine Kd.C_alloc ?_ _) | (with_reducible refine Kd.C_drewN ?_ _) | (with_reducible refine Kd.C_drew ?_))); (case side2 => exact HC0.out); rintro e w6 ⟨rfl, hb⟩; have n0_ := Aside0.mk (blk_below (by (with_reducible repeat first | apply blk_drewN | apply blk_drew | apply blk_alloc); exact BK346.out) hb); have n1_ := Aside0.mk (below_step (by repeat with_reducible first | exact HB.out | apply below_alloc | apply pw_below_drewN | apply below_drew1 | refine below_set ?_ GE346.out) hb); clear BK346 HB; have BK346 := n0_; have HB := n1_; clear n0_ n1_; (try clear hb); (try clear hb2); (try clear hk); (try clear hi)))
   go_meet
   case rel => exact ⟨_, (!t347), (by first | rfl | (simp; done) | (simp [*]; done)), H', ⟨by first | omega | exact Nat.le_refl _⟩, ⟨by (with_reducible repeat first | apply blk_drewN | apply blk_drew | apply blk_alloc); exact BK346.out⟩, ⟨by repeat with_reducible first | exact HB.out | apply below_alloc | apply pw_below_drewN | apply below_drew1 | refine below_set ?_ GE346.out⟩⟩
 case rest =>
  clear HC2
  try clear c1
  try clear p2
  try clear c4
  try clear c4b0
  try clear c4b1
  try clear c4b2
  obtain ⟨kq, x14_1, rfl, HA, HJ1, BK346, HB⟩ := hcut
  cases kq with
  | zero => exact absurd HA.out (by simp [mapmakerref08_Box.j0])
  | succ kj1 =>
   have H := HA.out; clear HA; simp only [mapmakerref08_Box.j0] at H
   by_cases c7 : x14_1 = true
   ·subst c7; have H1 : (some (0, 0, 0, 0, false)) = some (r1, r2, r3, r4, r5) := by rw [if_pos rfl] at H; exact H
    clear H; have H := H1; clear H1; simp only [Option.some.injEq, Prod.mk.injEq] at H; obtain ⟨rfl, rfl, rfl, rfl, rfl⟩ := H; have hcz8_0 : wc.cell? ⟨gb346, 0, none⟩ = some (.int .i64 0) := (blk_cell BK346.out 0).trans rfl; have hcz8_1 : wc.cell? ⟨gb346, 1, none⟩ = some (.int .i64 0) := (blk_cell BK346.out 1).trans rfl; have hcz8_2 : wc.cell? ⟨gb346, 2, none⟩ = some (.int .i64 0) := (blk_cell BK346.out 2).trans rfl; have hcz8_3 : wc.cell? ⟨gb346, 3, none⟩ = some (.int .i64 0) := (blk_cell BK346.out 3).trans rfl; have hfz8_0 := blk_frozen BK346.out 0; have hfz8_1 := blk_frozen BK346.out 1; have hfz8_2 := blk_frozen BK346.out 2; have hfz8_3 := blk_frozen BK346.out 3
    go_wp2
    refine bodyPost_ret (results_ct rfl _ _ gb346 34 #[.int .i64 0, .int .i64 0, .int .i64 0, .int .i64 0] (0, 0) _ rfl (by (with_reducible repeat first | apply blk_drewN | apply blk_drew | apply blk_alloc); refine blk_put (cs := #[.int .i64 0, .int .i64 0, .int .i64 0, .int .i64 0]) ?_ 3 _ rfl; (with_reducible repeat first | apply blk_drewN | apply blk_drew | apply blk_alloc); refine blk_put (cs := #[.int .i64 0, .int .i64 0, .int .i64 0, .int .i64 0]) ?_ 2 _ rfl; (with_reducible repeat first | apply blk_drewN | apply blk_drew | apply blk_alloc); refine blk_put (cs := #[.int .i64 0, .int .i64 0, .int .i64 0, .int .i64 0]) ?_ 1 _ rfl; (with_reducible repeat first | apply blk_drewN | apply blk_drew | apply blk_alloc); refine blk_put (cs := #[.int .i64 0, .int .i64 0, .int .i64 0, .int .i64 0]) ?_ 0 _ rfl; (with_reducible repeat first | apply blk_drewN | apply blk_drew | apply blk_alloc); exact BK346.out) Try.underlying34 rfl (by kernel_rfl)) rfl ?_; exact ⟨by first | rfl | (simp [errW_none, errW_some] <;> rfl) | (simp [*, errW_none, errW_some] <;> rfl), by repeat with_reducible first | exact HB.out | apply below_alloc | apply pw_below_drewN | apply below_drew1 | refine below_set ?_ GE346.out⟩
   ·replace c7 := Bool.eq_false_iff.mpr c7; subst c7; have H1 : (if 0 < (l0.length : Int) then (mapmakerref08_Box.l0 kj1 l0 1 ((rd_T30 l0 0).f0) ((rd_T30 l0 0).f1) ((rd_T30 l0 0).f0) ((rd_T30 l0 0).f1)) else (none)) = some (r1, r2, r3, r4, r5) := by rw [if_neg (show ¬ (false = true) by decide)] at H; exact H
    clear H; have H := H1; clear H1
    by_cases c9 : 0 < (l0.length : Int)
    ·rw [if_pos c9] at H
     have c9b0 : decide (0 < (l0.length : Int)) = true := decide_eq_true c9; have c9b1 : decide (0 < l0.length) = true := decide_eq_true (by omega); clear c9; have H' := Aside0.mk H; clear H
     try go_wp2
     have n0_ := Aside0.mk (blk_drew BK346.out); have n1_ := Aside0.mk (below_drew1 HB.out); clear BK346 HB; have BK346 := n0_; have HB := n1_; clear n0_ n1_; have p348 : 0 ≤ (0 : Int) := (by omega); have q348 : 0 < (l0.length : Int) := of_decide_eq_true (by first | (with_reducible assumption) | assumption); obtain ⟨ad348, e348, hx348_0, hx348_1⟩ := at_T30 HR0.out 0 p348 q348; have hw348_1 := hx348_1; (try rw [show ((0 : Int)).toNat = 0 from rfl] at hw348_1); (try rw [show 0 * 2 = 0 from rfl] at hw348_1); (try rw [Addr.add_zero'] at hw348_1); have hw348_0 := hx348_0; (try rw [show ((0 : Int)).toNat = 0 from rfl] at hw348_0); (try rw [show 0 * 2 = 0 from rfl] at hw348_0); (try rw [Addr.add_zero'] at hw348_0)
     cases e348
     have qi348 : (0 < l0.length) = True := eq_true (by omega); (try rw [show ((0 : Int)).toNat = 0 from rfl] at hx348_0); (try rw [show 0 * 2 = 0 from rfl] at hx348_0); (try rw [Addr.add_zero'] at hx348_0); (try rw [show ((0 : Int)).toNat = 0 from rfl] at hx348_1); (try rw [show 0 * 2 = 0 from rfl] at hx348_1); (try rw [Addr.add_zero'] at hx348_1); replace hx348_0 := (HB.out.cell (World.block_lt_of_cell? w _ hx348_0)).trans hx348_0; replace hx348_1 := (HB.out.cell (World.block_lt_of_cell? w _ hx348_1)).trans hx348_1; replace p348 := eq_true p348; replace q348 := eq_true q348; have p349 : 0 ≤ (0 : Int) := (by omega); have q349 : 0 < (l0.length : Int) := of_decide_eq_true (by first | (with_reducible assumption) | assumption); obtain ⟨ad349, e349, hx349_0, hx349_1⟩ := at_T30 HR0.out 0 p349 q349; have hw349_1 := hx349_1; (try rw [show ((0 : Int)).toNat = 0 from rfl] at hw349_1); (try rw [show 0 * 2 = 0 from rfl] at hw349_1); (try rw [Addr.add_zero'] at hw349_1); have hw349_0 := hx349_0; (try rw [show ((0 : Int)).toNat = 0 from rfl] at hw349_0); (try rw [show 0 * 2 = 0 from rfl] at hw349_0); (try rw [Addr.add_zero'] at hw349_0); obtain rfl : ad348 = ad349 := (by injection e349); have qi349 : (0 < l0.length) = True := eq_true (by omega); (try rw [show ((0 : Int)).toNat = 0 from rfl] at hx349_0); (try rw [show 0 * 2 = 0 from rfl] at hx349_0); (try rw [Addr.add_zero'] at hx349_0); (try rw [show ((0 : Int)).toNat = 0 from rfl] at hx349_1); (try rw [show 0 * 2 = 0 from rfl] at hx349_1); (try rw [Addr.add_zero'] at hx349_1); replace hx349_0 := (HB.out.cell (World.block_lt_of_cell? w _ hx349_0)).trans hx349_0; replace hx349_1 := (HB.out.cell (World.block_lt_of_cell? w _ hx349_1)).trans hx349_1; replace p349 := eq_true p349; replace q349 := eq_true q349; have p350 : 0 ≤ (0 : Int) := (by omega); have q350 : 0 < (l0.length : Int) := of_decide_eq_true (by first | (with_reducible assumption) | assumption); obtain ⟨ad350, e350, hx350_0, hx350_1⟩ := at_T30 HR0.out 0 p350 q350; have hw350_1 := hx350_1; (try rw [show ((0 : Int)).toNat = 0 from rfl] at hw350_1); (try rw [show 0 * 2 = 0 from rfl] at hw350_1); (try rw [Addr.add_zero'] at hw350_1); have hw350_0 := hx350_0; (try rw [show ((0 : Int)).toNat = 0 from rfl] at hw350_0); (try rw [show 0 * 2 = 0 from rfl] at hw350_0); (try rw [Addr.add_zero'] at hw350_0); obtain rfl : ad348 = ad350 := (by injection e350); have qi350 : (0 < l0.length) = True := eq_true (by omega); (try rw [show ((0 : Int)).toNat = 0 from rfl] at hx350_0); (try rw [show 0 * 2 = 0 from rfl] at hx350_0); (try rw [Addr.add_zero'] at hx350_0); (try rw [show ((0 : Int)).toNat = 0 from rfl] at hx350_1); (try rw [show 0 * 2 = 0 from rfl] at hx350_1); (try rw [Addr.add_zero'] at hx350_1); replace hx350_0 := (HB.out.cell (World.block_lt_of_cell? w _ hx350_0)).trans hx350_0; replace hx350_1 := (HB.out.cell (World.block_lt_of_cell? w _ hx350_1)).trans hx350_1; replace p350 := eq_true p350; replace q350 := eq_true q350; have p351 : 0 ≤ (0 : Int) := (by omega); have q351 : 0 < (l0.length : Int) := of_decide_eq_true (by first | (with_reducible assumption) | assumption); obtain ⟨ad351, e351, hx351_0, hx351_1⟩ := at_T30 HR0.out 0 p351 q351; have hw351_1 := hx351_1; (try rw [show ((0 : Int)).toNat = 0 from rfl] at hw351_1); (try rw [show 0 * 2 = 0 from rfl] at hw351_1); (try rw [Addr.add_zero'] at hw351_1); have hw351_0 := hx351_0; (try rw [show ((0 : Int)).toNat = 0 from rfl] at hw351_0); (try rw [show 0 * 2 = 0 from rfl] at hw351_0); (try rw [Addr.add_zero'] at hw351_0); obtain rfl : ad348 = ad351 := (by injection e351); have qi351 : (0 < l0.length) = True := eq_true (by omega); (try rw [show ((0 : Int)).toNat = 0 from rfl] at hx351_0); (try rw [show 0 * 2 = 0 from rfl] at hx351_0); (try rw [Addr.add_zero'] at hx351_0); (try rw [show ((0 : Int)).toNat = 0 from rfl] at hx351_1); (try rw [show 0 * 2 = 0 from rfl] at hx351_1); (try rw [Addr.add_zero'] at hx351_1); replace hx351_0 := (HB.out.cell (World.block_lt_of_cell? w _ hx351_0)).trans hx351_0; replace hx351_1 := (HB.out.cell (World.block_lt_of_cell? w _ hx351_1)).trans hx351_1; replace p351 := eq_true p351; replace q351 := eq_true q351; refine start_ (n := 19) (S := fun w' => w'.cell? ad348 = some (.int .i64 ((rd_T30 l0 0).f0)) ∧ w'.cell? ⟨ad348.block, ad348.off + 1, none⟩ = some (.int .i64 ((rd_T30 l0 0).f1)) ∧ w'.cell? ad348 = some (.int .i64 ((rd_T30 l0 0).f0)) ∧ w'.cell? ⟨ad348.block, ad348.off + 1, none⟩ = some (.int .i64 ((rd_T30 l0 0).f1)) ∧ w'.cell? ad348 = some (.int .i64 ((rd_T30 l0 0).f0)) ∧ w'.cell? ⟨ad348.block, ad348.off + 1, none⟩ = some (.int .i64 ((rd_T30 l0 0).f1)) ∧ w'.cell? ad348 = some (.int .i64 ((rd_T30 l0 0).f0)) ∧ w'.cell? ⟨ad348.block, ad348.off + 1, none⟩ = some (.int .i64 ((rd_T30 l0 0).f1))) (ds := []) #[F, F, F, F, F, F, F, F, F, F, F, F, F, F, F, F, F, F, F] (by kernel_rfl) rfl rfl ⟨((HB.out.cell (World.block_lt_of_cell? w _ hw348_0)).trans hw348_0), ((HB.out.cell (World.block_lt_of_cell? w _ hw348_1)).trans hw348_1), ((HB.out.cell (World.block_lt_of_cell? w _ hw349_0)).trans hw349_0), ((HB.out.cell (World.block_lt_of_cell? w _ hw349_1)).trans hw349_1), ((HB.out.cell (World.block_lt_of_cell? w _ hw350_0)).trans hw350_0), ((HB.out.cell (World.block_lt_of_cell? w _ hw350_1)).trans hw350_1), ((HB.out.cell (World.block_lt_of_cell? w _ hw351_0)).trans hw351_0), ((HB.out.cell (World.block_lt_of_cell? w _ hw351_1)).trans hw351_1)⟩ (fun hHeld => ?_); refine with_tabW mapmakerref08_Box.tab3 mapmakerref08_Box.bits3 (fun HT_ HW_ => ?_); generalize wc.drew = w10 at BK346 HB hx348_0 hx348_1 hx349_0 hx349_1 hx350_0 hx350_1 hx351_0 hx351_1 hHeld ⊢
     refine pure_ (i := 0) (N := some 16) (v := ?_) (a' := ?_) #[T, F, F, F, F, F, F, F, F, F, F, F, F, F, F, F, F, F, F] rfl rfl (any_of HT_.out (by kernel_rfl)) (fun _ _ _ h => h) (Or.inl ⟨by rfl, ?_⟩) ?_ ?_; rotate_left
     ·intro w'; go_simp; with_reducible rfl
     rotate_left
     ·go_simp
      rfl
     refine pure_ (i := 1) (N := some 17) (v := ?_) (a' := ?_) #[T, T, F, F, F, F, F, F, F, F, F, F, F, F, F, F, F, F, F] rfl rfl (any_of HT_.out (by kernel_rfl)) (fun _ _ _ h => h) (Or.inl ⟨by rfl, ?_⟩) ?_ ?_; rotate_left
     ·intro w'; go_simp; with_reducible rfl
     rotate_left
     ·go_simp
      rfl
     refine pure_ (i := 2) (N := some 18) (v := ?_) (a' := ?_) #[T, T, T, F, F, F, F, F, F, F, F, F, F, F, F, F, F, F, F] rfl rfl (any_of HT_.out (by kernel_rfl)) (fun _ _ _ h => h) (Or.inl ⟨by rfl, ?_⟩) ?_ ?_; rotate_left
     ·intro w'; go_simp; with_reducible rfl
     rotate_left
     ·go_simp
      rfl
     refine pure_ (i := 4) (N := some 20) (v := ?_) (a' := ?_) #[T, T, T, F, T, F, F, F, F, F, F, F, F, F, F, F, F, F, F] rfl rfl (any_of HT_.out (by kernel_rfl)) (fun _ _ _ h => h) (Or.inl ⟨by rfl, ?_⟩) ?_ ?_; rotate_left
     ·intro w'; go_simp; with_reducible rfl
     rotate_left
     ·go_simp
      rfl
     refine pure_ (i := 5) (N := some 21) (v := ?_) (a' := ?_) #[T, T, T, F, T, T, F, F, F, F, F, F, F, F, F, F, F, F, F] rfl rfl (any_of HT_.out (by kernel_rfl)) (fun _ _ _ h => h) (Or.inl ⟨by rfl, ?_⟩) ?_ ?_; rotate_left
     ·intro w'; go_simp; with_reducible rfl
     rotate_left
     ·go_simp
      rfl
     refine pure_ (i := 6) (N := some 22) (v := ?_) (a' := ?_) #[T, T, T, F, T, T, T, F, F, F, F, F, F, F, F, F, F, F, F] rfl rfl (any_of HT_.out (by kernel_rfl)) (fun _ _ _ h => h) (Or.inl ⟨by rfl, ?_⟩) ?_ ?_; rotate_left
     ·intro w'; go_simp; with_reducible rfl
     rotate_left
     ·go_simp
      rfl
     refine pure_ (i := 8) (N := some 24) (v := ?_) (a' := ?_) #[T, T, T, F, T, T, T, F, T, F, F, F, F, F, F, F, F, F, F] rfl rfl (any_of HT_.out (by kernel_rfl)) (fun _ _ _ h => h) (Or.inl ⟨by rfl, ?_⟩) ?_ ?_; rotate_left
     ·intro w'; go_simp; with_reducible rfl
     rotate_left
     ·go_simp
      rfl
     refine pure_ (i := 9) (N := some 25) (v := ?_) (a' := ?_) #[T, T, T, F, T, T, T, F, T, T, F, F, F, F, F, F, F, F, F] rfl rfl (any_of HT_.out (by kernel_rfl)) (fun _ _ _ h => h) (Or.inl ⟨by rfl, ?_⟩) ?_ ?_; rotate_left
     ·intro w'; go_simp; with_reducible rfl
     rotate_left
     ·go_simp
      rfl
     refine pure_ (i := 10) (N := some 26) (v := ?_) (a' := ?_) #[T, T, T, F, T, T, T, F, T, T, T, F, F, F, F, F, F, F, F] rfl rfl (any_of HT_.out (by kernel_rfl)) (fun _ _ _ h => h) (Or.inl ⟨by rfl, ?_⟩) ?_ ?_; rotate_left
     ·intro w'; go_simp; with_reducible rfl
     rotate_left
     ·go_simp
      rfl
     refine pure_ (i := 12) (N := some 28) (v := ?_) (a' := ?_) #[T, T, T, F, T, T, T, F, T, T, T, F, T, F, F, F, F, F, F] rfl rfl (any_of HT_.out (by kernel_rfl)) (fun _ _ _ h => h) (Or.inl ⟨by rfl, ?_⟩) ?_ ?_; rotate_left
     ·intro w'; go_simp; with_reducible rfl
     rotate_left
     ·go_simp
      rfl
     refine pure_ (i := 13) (N := some 29) (v := ?_) (a' := ?_) #[T, T, T, F, T, T, T, F, T, T, T, F, T, T, F, F, F, F, F] rfl rfl (any_of HT_.out (by kernel_rfl)) (fun _ _ _ h => h) (Or.inl ⟨by rfl, ?_⟩) ?_ ?_; rotate_left
     ·intro w'; go_simp; with_reducible rfl
     rotate_left
     ·go_simp
      rfl
     refine pure_ (i := 14) (N := some 30) (v := ?_) (a' := ?_) #[T, T, T, F, T, T, T, F, T, T, T, F, T, T, T, F, F, F, F] rfl rfl (any_of HT_.out (by kernel_rfl)) (fun _ _ _ h => h) (Or.inl ⟨by rfl, ?_⟩) ?_ ?_; rotate_left
     ·intro w'; go_simp; with_reducible rfl
     rotate_left
     ·go_simp
      rfl
     refine take_ (i := 3) (N := some 19) (v := ?_) (a' := ?_) #[T, T, T, T, T, T, T, F, T, T, T, F, T, T, T, F, F, F, F] rfl rfl (take_ofW HT_.out HW_.out (by kernel_rfl)) (fun _ _ _ h => h) (Or.inl ⟨by rfl, ?_⟩) hHeld ?_ ?_; rotate_left
     ·rintro w' ⟨s0, s1, s2, s3, s4, s5, s6, s7⟩; go_simp; with_reducible rfl
     rotate_left
     ·go_simp
      rfl
     refine take_ (i := 7) (N := some 23) (v := ?_) (a' := ?_) #[T, T, T, T, T, T, T, T, T, T, T, F, T, T, T, F, F, F, F] rfl rfl (take_ofW HT_.out HW_.out (by kernel_rfl)) (fun _ _ _ h => h) (Or.inl ⟨by rfl, ?_⟩) hHeld ?_ ?_; rotate_left
     ·rintro w' ⟨s0, s1, s2, s3, s4, s5, s6, s7⟩; go_simp; with_reducible rfl
     rotate_left
     ·go_simp
      rfl
     refine take_ (i := 11) (N := some 27) (v := ?_) (a' := ?_) #[T, T, T, T, T, T, T, T, T, T, T, T, T, T, T, F, F, F, F] rfl rfl (take_ofW HT_.out HW_.out (by kernel_rfl)) (fun _ _ _ h => h) (Or.inl ⟨by rfl, ?_⟩) hHeld ?_ ?_; rotate_left
     ·rintro w' ⟨s0, s1, s2, s3, s4, s5, s6, s7⟩; go_simp; with_reducible rfl
     rotate_left
     ·go_simp
      rfl
     refine take_ (i := 15) (N := some 31) (v := ?_) (a' := ?_) #[T, T, T, T, T, T, T, T, T, T, T, T, T, T, T, T, F, F, F] rfl rfl (take_ofW HT_.out HW_.out (by kernel_rfl)) (fun _ _ _ h => h) (Or.inl ⟨by rfl, ?_⟩) hHeld ?_ ?_; rotate_left
     ·rintro w' ⟨s0, s1, s2, s3, s4, s5, s6, s7⟩; go_simp; with_reducible rfl
     rotate_left
     ·go_simp
      rfl
     refine pure_ (i := 16) (N := some 32) (v := ?_) (a' := ?_) #[T, T, T, T, T, T, T, T, T, T, T, T, T, T, T, T, T, F, F] rfl rfl (any_of HT_.out (by kernel_rfl)) (fun _ _ _ h => h) (Or.inl ⟨by rfl, ?_⟩) ?_ ?_; rotate_left
     ·intro w'; go_simp; with_reducible rfl
     rotate_left
     ·go_simp
      rfl
     refine one_ (i := 17) (N := some 4) #[T, T, T, T, T, T, T, T, T, T, T, T, T, T, T, T, T, T, F] rfl rfl (one_of HT_.out (by kernel_rfl)) (by decide) (fun K hK => ?_); refine box_step ?hg (N := 4) ?hd (cs := #[.int .i64 0, .int .i64 0, .int .i64 0, .int .i64 0]) (t := 34) ?hr ?_; (case hd => rfl); (case hg => rfl); (case hr => first | (go_simp; done) | (go_simp; rfl)); intro gb352 hg w11 hbox hb; have n0_ := Aside0.mk (blk_below (by (with_reducible repeat first | apply blk_drewN | apply blk_drew | apply blk_alloc); exact BK346.out) hb); have n1_ := Aside0.mk (below_step (by repeat with_reducible first | exact HB.out | apply below_alloc | apply pw_below_drewN | apply below_drew1 | refine below_set ?_ GE346.out) hb); have n2_ := Aside0.mk (hbox); have n3_ := Aside0.mk ((by rw [hg]; exact (below_size (by repeat with_reducible first | exact HB.out | apply below_alloc | apply pw_below_drewN | apply below_drew1 | refine below_set ?_ GE346.out)) : w.heap.size ≤ gb352)); have n4_ := n3_; have n5_ := Aside0.mk ((by rw [hg]; exact Nat.ne_of_lt (blk_lt (by (with_reducible repeat first | apply blk_drewN | apply blk_drew | apply blk_alloc); exact BK346.out)) : gb346 ≠ gb352)); have n6_ : Aside0 (gb352 ≠ gb346) := ⟨Ne.symm n5_.out⟩; clear BK346 HB; have BK346 := n0_; have HB := n1_; have BK352 := n2_; have GW352 := n3_; have GE352 := n4_; have NB346_352 := n5_; have NB352_346 := n6_; clear n0_ n1_ n2_ n3_ n4_ n5_ n6_ hb hbox hg; refine hK.out _ _ ⟨((HB.out.cell (World.block_lt_of_cell? w _ hw348_0)).trans hw348_0), ((HB.out.cell (World.block_lt_of_cell? w _ hw348_1)).trans hw348_1), ((HB.out.cell (World.block_lt_of_cell? w _ hw349_0)).trans hw349_0), ((HB.out.cell (World.block_lt_of_cell? w _ hw349_1)).trans hw349_1), ((HB.out.cell (World.block_lt_of_cell? w _ hw350_0)).trans hw350_0), ((HB.out.cell (World.block_lt_of_cell? w _ hw350_1)).trans hw350_1), ((HB.out.cell (World.block_lt_of_cell? w _ hw351_0)).trans hw351_0), ((HB.out.cell (World.block_lt_of_cell? w _ hw351_1)).trans hw351_1)⟩ (fun hHeld => ?_); clear hK K; refine norm_ (a' := ?_) ?_ ?_; rotate_left
     ·show Act.put _ (some 4) _ = _; go_simp; rfl
     refine one_ (i := 18) (N := none) #[T, T, T, T, T, T, T, T, T, T, T, T, T, T, T, T, T, T, T] rfl rfl (one_of HT_.out (by kernel_rfl)) (by decide) (fun K hK => ?_); have hs12 : w11.cell? ⟨gb352, 0, none⟩ = some (.int .i64 0) := (blk_cell BK352.out 0).trans rfl; have hfs12 := blk_frozen BK352.out 0; have hns12_0 := NB346_352.out; have hms12_0 := NB352_346.out; have hs13 : w11.cell? ⟨gb352, 1, none⟩ = some (.int .i64 0) := (blk_cell BK352.out 1).trans rfl; have hfs13 := blk_frozen BK352.out 1; have hns13_0 := NB346_352.out; have hms13_0 := NB352_346.out; have hs14 : w11.cell? ⟨gb352, 2, none⟩ = some (.int .i64 0) := (blk_cell BK352.out 2).trans rfl; have hfs14 := blk_frozen BK352.out 2; have hns14_0 := NB346_352.out; have hms14_0 := NB352_346.out; have hs15 : w11.cell? ⟨gb352, 3, none⟩ = some (.int .i64 0) := (blk_cell BK352.out 3).trans rfl; have hfs15 := blk_frozen BK352.out 3; have hns15_0 := NB346_352.out; have hms15_0 := NB352_346.out; refine skip_ (w1 := ?_) (by rfl) rfl ?_ ?_; rotate_left
     ·go_simp
      rfl
     refine hK.out _ _ ⟨((cell_far (p := ⟨gb352, _, none⟩) (far_ne hw348_0 GW352.out) _).trans (((cell_far (p := ⟨gb352, _, none⟩) (far_ne hw348_0 GW352.out) _).trans (((cell_far (p := ⟨gb352, _, none⟩) (far_ne hw348_0 GW352.out) _).trans (((cell_far (p := ⟨gb352, _, none⟩) (far_ne hw348_0 GW352.out) _).trans (hHeld.1)))))))), ((cell_far (p := ⟨gb352, _, none⟩) (far_ne hw348_1 GW352.out) _).trans (((cell_far (p := ⟨gb352, _, none⟩) (far_ne hw348_1 GW352.out) _).trans (((cell_far (p := ⟨gb352, _, none⟩) (far_ne hw348_1 GW352.out) _).trans (((cell_far (p := ⟨gb352, _, none⟩) (far_ne hw348_1 GW352.out) _).trans (hHeld.2.1)))))))), ((cell_far (p := ⟨gb352, _, none⟩) (far_ne hw349_0 GW352.out) _).trans (((cell_far (p := ⟨gb352, _, none⟩) (far_ne hw349_0 GW352.out) _).trans (((cell_far (p := ⟨gb352, _, none⟩) (far_ne hw349_0 GW352.out) _).trans (((cell_far (p := ⟨gb352, _, none⟩) (far_ne hw349_0 GW352.out) _).trans (hHeld.2.2.1)))))))), ((cell_far (p := ⟨gb352, _, none⟩) (far_ne hw349_1 GW352.out) _).trans (((cell_far (p := ⟨gb352, _, none⟩) (far_ne hw349_1 GW352.out) _).trans (((cell_far (p := ⟨gb352, _, none⟩) (far_ne hw349_1 GW352.out) _).trans (((cell_far (p := ⟨gb352, _, none⟩) (far_ne hw349_1 GW352.out) _).trans (hHeld.2.2.2.1)))))))), ((cell_far (p := ⟨gb352, _, none⟩) (far_ne hw350_0 GW352.out) _).trans (((cell_far (p := ⟨gb352, _, none⟩) (far_ne hw350_0 GW352.out) _).trans (((cell_far (p := ⟨gb352, _, none⟩) (far_ne hw350_0 GW352.out) _).trans (((cell_far (p := ⟨gb352, _, none⟩) (far_ne hw350_0 GW352.out) _).trans (hHeld.2.2.2.2.1)))))))), ((cell_far (p := ⟨gb352, _, none⟩) (far_ne hw350_1 GW352.out) _).trans (((cell_far (p := ⟨gb352, _, none⟩) (far_ne hw350_1 GW352.out) _).trans (((cell_far (p := ⟨gb352, _, none⟩) (far_ne hw350_1 GW352.out) _).trans (((cell_far (p := ⟨gb352, _, none⟩) (far_ne hw350_1 GW352.out) _).trans (hHeld.2.2.2.2.2.1)))))))), ((cell_far (p := ⟨gb352, _, none⟩) (far_ne hw351_0 GW352.out) _).trans (((cell_far (p := ⟨gb352, _, none⟩) (far_ne hw351_0 GW352.out) _).trans (((cell_far (p := ⟨gb352, _, none⟩) (far_ne hw351_0 GW352.out) _).trans (((cell_far (p := ⟨gb352, _, none⟩) (far_ne hw351_0 GW352.out) _).trans (hHeld.2.2.2.2.2.2.1)))))))), ((cell_far (p := ⟨gb352, _, none⟩) (far_ne hw351_1 GW352.out) _).trans (((cell_far (p := ⟨gb352, _, none⟩) (far_ne hw351_1 GW352.out) _).trans (((cell_far (p := ⟨gb352, _, none⟩) (far_ne hw351_1 GW352.out) _).trans (((cell_far (p := ⟨gb352, _, none⟩) (far_ne hw351_1 GW352.out) _).trans (hHeld.2.2.2.2.2.2.2))))))))⟩ (fun hHeld => ?_); clear hK K; refine done_ (done_of HT_.out (by kernel_rfl)) ?_
     try go_wp2
     go_loopg [5] kj1 (fun kq v5 w' => ∃ (x5_2 : Int) (x353000_2 : Int) (x353001_2 : Int) (x353002_2 : Int) (x353003_2 : Int), v5 = .int .i64 x5_2 ∧ Aside0 (mapmakerref08_Box.l0 kq l0 x5_2 x353000_2 x353001_2 x353002_2 x353003_2 = some (r1, r2, r3, r4, r5)) ∧ Aside0 (kq ≤ kj1) ∧ Aside0 (w'.heap[gb346]? = some (.cells #[.int .i64 0, .int .i64 0, .int .i64 0, .int .i64 0] 34 (0, 0))) ∧ Aside0 (w'.heap[gb352]? = some (.cells #[.int .i64 x353000_2, .int .i64 x353001_2, .int .i64 x353002_2, .int .i64 x353003_2] 34 (0, 0))) ∧ Aside0 (Below w.heap.size w w'))
     case atStart => exact ⟨(1), ((rd_T30 l0 0).f0), ((rd_T30 l0 0).f1), ((rd_T30 l0 0).f0), ((rd_T30 l0 0).f1), (by first | rfl | (simp; done) | (simp [*]; done)), H', ⟨Nat.le_refl _⟩, ⟨by (iterate 4 ((with_reducible repeat first | apply blk_drewN | apply blk_drew | apply blk_alloc); refine blk_far ?_ NB346_352.out _)); (with_reducible repeat first | apply blk_drewN | apply blk_drew | apply blk_alloc); exact BK346.out⟩, ⟨by (with_reducible repeat first | apply blk_drewN | apply blk_drew | apply blk_alloc); refine blk_put (cs := #[.int .i64 ((rd_T30 l0 0).f0), .int .i64 ((rd_T30 l0 0).f1), .int .i64 ((rd_T30 l0 0).f0), .int .i64 0]) ?_ 3 _ rfl; (with_reducible repeat first | apply blk_drewN | apply blk_drew | apply blk_alloc); refine blk_put (cs := #[.int .i64 ((rd_T30 l0 0).f0), .int .i64 ((rd_T30 l0 0).f1), .int .i64 0, .int .i64 0]) ?_ 2 _ rfl; (with_reducible repeat first | apply blk_drewN | apply blk_drew | apply blk_alloc); refine blk_put (cs := #[.int .i64 ((rd_T30 l0 0).f0), .int .i64 0, .int .i64 0, .int .i64 0]) ?_ 1 _ rfl; (with_reducible repeat first | apply blk_drewN | apply blk_drew | apply blk_alloc); refine blk_put (cs := #[.int .i64 0, .int .i64 0, .int .i64 0, .int .i64 0]) ?_ 0 _ rfl; (with_reducible repeat first | apply blk_drewN | apply blk_drew | apply blk_alloc); exact BK352.out⟩, ⟨by repeat with_reducible first | exact HB.out | apply below_alloc | apply pw_below_drewN | apply below_drew1 | refine below_set ?_ GE346.out | refine below_set ?_ GE352.out⟩⟩
     case round =>
      clear H'
      try clear c1
      try clear p2
      try clear p3
      try clear q3
      try clear hx3
      try clear qi3
      try clear c4
      try clear c4b0
      try clear c4b1
      try clear c4b2
      try clear c7
      try clear c9
      try clear c9b0
      try clear c9b1
      try clear hcz8_0
      try clear hcz8_1
      try clear hcz8_2
      try clear hcz8_3
      try clear hfz8_0
      try clear hfz8_1
      try clear hfz8_2
      try clear hfz8_3
      try clear hx348_0
      try clear hx348_1
      try clear hx349_0
      try clear hx349_1
      try clear hx350_0
      try clear hx350_1
      try clear hx351_0
      try clear hx351_1
      try clear p2
      try clear p348
      try clear p349
      try clear p350
      try clear p351
      try clear q348
      try clear q349
      try clear q350
      try clear q351
      obtain ⟨x5_2, x353000_2, x353001_2, x353002_2, x353003_2, rfl, HA, HK2, BK346, BK352, HB⟩ := hrel
      cases gk with
      | zero => exact absurd HA.out (by simp [mapmakerref08_Box.l0])
      | succ k2 =>
       have H := HA.out; clear HA; simp only [mapmakerref08_Box.l0] at H
       by_cases c16 : x5_2 < (l0.length : Int)
       ·rw [if_pos c16] at H
        have c16b0 : decide (x5_2 < (l0.length : Int)) = true := decide_eq_true c16; clear c16
        by_cases c17 : 0 ≤ x5_2
        ·rw [if_pos c17] at H
         have c17b0 : decide (0 ≤ x5_2) = true := decide_eq_true c17; clear c17; obtain ⟨ji18, hji18⟩ : ∃ j_ : Int, (mn x353000_2 ((rd_T30 l0 x5_2).f0)) = j_ := ⟨_, rfl⟩; replace H : (mapmakerref08_Box.l0 k2 l0 (wrap64 (x5_2 + 1)) ji18 (mn x353001_2 ((rd_T30 l0 x5_2).f1)) (mx x353002_2 ((rd_T30 l0 x5_2).f0)) (mx x353003_2 ((rd_T30 l0 x5_2).f1))) = some (r1, r2, r3, r4, r5) := by first | (rw [hji18] at H; exact H) | (simp only [hji18] at H ⊢; exact H)
         have hji18_ : (if ((rd_T30 l0 x5_2).f0) < x353000_2 then ((rd_T30 l0 x5_2).f0) else x353000_2) = ji18 := hji18; obtain ⟨ji19, hji19⟩ : ∃ j_ : Int, (mn x353001_2 ((rd_T30 l0 x5_2).f1)) = j_ := ⟨_, rfl⟩; replace H : (mapmakerref08_Box.l0 k2 l0 (wrap64 (x5_2 + 1)) ji18 ji19 (mx x353002_2 ((rd_T30 l0 x5_2).f0)) (mx x353003_2 ((rd_T30 l0 x5_2).f1))) = some (r1, r2, r3, r4, r5) := by first | (rw [hji19] at H; exact H) | (simp only [hji19] at H ⊢; exact H)
         have hji19_ : (if ((rd_T30 l0 x5_2).f1) < x353001_2 then ((rd_T30 l0 x5_2).f1) else x353001_2) = ji19 := hji19; obtain ⟨ji20, hji20⟩ : ∃ j_ : Int, (mx x353002_2 ((rd_T30 l0 x5_2).f0)) = j_ := ⟨_, rfl⟩; replace H : (mapmakerref08_Box.l0 k2 l0 (wrap64 (x5_2 + 1)) ji18 ji19 ji20 (mx x353003_2 ((rd_T30 l0 x5_2).f1))) = some (r1, r2, r3, r4, r5) := by first | (rw [hji20] at H; exact H) | (simp only [hji20] at H ⊢; exact H)
         have hji20_ : (if x353002_2 < ((rd_T30 l0 x5_2).f0) then ((rd_T30 l0 x5_2).f0) else x353002_2) = ji20 := hji20; obtain ⟨ji21, hji21⟩ : ∃ j_ : Int, (mx x353003_2 ((rd_T30 l0 x5_2).f1)) = j_ := ⟨_, rfl⟩; replace H : (mapmakerref08_Box.l0 k2 l0 (wrap64 (x5_2 + 1)) ji18 ji19 ji20 ji21) = some (r1, r2, r3, r4, r5) := by first | (rw [hji21] at H; exact H) | (simp only [hji21] at H ⊢; exact H)
         have hji21_ : (if x353003_2 < ((rd_T30 l0 x5_2).f1) then ((rd_T30 l0 x5_2).f1) else x353003_2) = ji21 := hji21; have H' := Aside0.mk H; clear H; have p353 : 0 ≤ (x5_2 : Int) := of_decide_eq_true (by first | (with_reducible assumption) | assumption); have q353 : x5_2 < (l0.length : Int) := of_decide_eq_true (by first | (with_reducible assumption) | assumption); obtain ⟨ad353, e353, hx353_0, hx353_1⟩ := at_T30 HR0.out x5_2 p353 q353; obtain rfl : ad348 = ad353 := (by injection e353); replace hx353_0 := (HB.out.cell (World.block_lt_of_cell? w _ hx353_0)).trans hx353_0; replace hx353_1 := (HB.out.cell (World.block_lt_of_cell? w _ hx353_1)).trans hx353_1; replace p353 := eq_true p353; replace q353 := eq_true q353
         go_wp2_with (first | ((with_reducible refine gate_dst (N := 6) rfl ?_); refine box_event ?hg (N := 6) ?hd (cs := #[.int .i64 0, .int .i64 0]) (t := 30) ?hr ?_; (case hd => rfl); (case hg => rfl); (case hr => first | (go_simp; done) | (go_simp; rfl)); intro gb354 hg w22 hbox hb; have n0_ := Aside0.mk (blk_below (by (with_reducible repeat first | apply blk_drewN | apply blk_drew | apply blk_alloc); exact BK346.out) hb); have n1_ := Aside0.mk (blk_below (by (with_reducible repeat first | apply blk_drewN | apply blk_drew | apply blk_alloc); exact BK352.out) hb); have n2_ := Aside0.mk (below_step (by repeat with_reducible first | exact HB.out | apply below_alloc | apply pw_below_drewN | apply below_drew1 | refine below_set ?_ GE346.out | refine below_set ?_ GE352.out) hb); have n3_ := Aside0.mk (hbox); have n4_ := Aside0.mk ((by rw [hg]; exact (below_size (by repeat with_reducible first | exact HB.out | apply below_alloc | apply pw_below_drewN | apply below_drew1 | refine below_set ?_ GE346.out | refine below_set ?_ GE352.out)) : w.heap.size ≤ gb354)); have n5_ := n4_; have n6_ := Aside0.mk ((by rw [hg]; exact Nat.ne_of_lt (blk_lt (by (with_reducible repeat first | apply blk_drewN | apply blk_drew | apply blk_alloc); exact BK346.out)) : gb346 ≠ gb354)); have n7_ : Aside0 (gb354 ≠ gb346) := ⟨Ne.symm n6_.out⟩; have n8_ := Aside0.mk ((by rw [hg]; exact Nat.ne_of_lt (blk_lt (by (with_reducible repeat first | apply blk_drewN | apply blk_drew | apply blk_alloc); exact BK352.out)) : gb352 ≠ gb354)); have n9_ : Aside0 (gb354 ≠ gb352) := ⟨Ne.symm n8_.out⟩; clear BK346 BK352 HB; have BK346 := n0_; have BK352 := n1_; have HB := n2_; have BK354 := n3_; have GW354 := n4_; have GE354 := n5_; have NB346_354 := n6_; have NB354_346 := n7_; have NB352_354 := n8_; have NB354_352 := n9_; clear n0_ n1_ n2_ n3_ n4_ n5_ n6_ n7_ n8_ n9_ hb hbox hg; have hnb23 := NB354_346.out; have hnc23 := NB346_354.out; have hnb24 := NB354_352.out; have hnc24 := NB352_354.out; have hcz25_0 : w22.cell? ⟨gb354, 0, none⟩ = some (.int .i64 0) := (blk_cell BK354.out 0).trans rfl; have hcz25_1 : w22.cell? ⟨gb354, 1, none⟩ = some (.int .i64 0) := (blk_cell BK354.out 1).trans rfl; have hfz25_0 := blk_frozen BK354.out 0; have hfz25_1 := blk_frozen BK354.out 1; have hnb26 := NB352_346.out; have hnc26 := NB346_352.out; have hcz27_0 : w22.cell? ⟨gb352, 0, none⟩ = some (.int .i64 x353000_2) := (blk_cell BK352.out 0).trans rfl; have hcz27_1 : w22.cell? ⟨gb352, 1, none⟩ = some (.int .i64 x353001_2) := (blk_cell BK352.out 1).trans rfl; have hcz27_2 : w22.cell? ⟨gb352, 2, none⟩ = some (.int .i64 x353002_2) := (blk_cell BK352.out 2).trans rfl; have hcz27_3 : w22.cell? ⟨gb352, 3, none⟩ = some (.int .i64 x353003_2) := (blk_cell BK352.out 3).trans rfl; have hfz27_0 := blk_frozen BK352.out 0; have hfz27_1 := blk_frozen BK352.out 1; have hfz27_2 := blk_frozen BK352.out 2; have hfz27_3 := blk_frozen BK352.out 3))
         go_roundg k2
         case measure => have := HJ1.out; have := HK2.out; omega
         case rel => exact ⟨(wrap64 (x5_2 + 1)), (ji18), (ji19), (ji20), (ji21), (by first | rfl | (simp; done) | (simp [*]; done)), H', ⟨by have := HJ1.out; have := HK2.out; omega⟩, ⟨by (iterate 4 ((with_reducible repeat first | apply blk_drewN | apply blk_drew | apply blk_alloc); refine blk_far ?_ NB346_352.out _)); (iterate 2 ((with_reducible repeat first | apply blk_drewN | apply blk_drew | apply blk_alloc); refine blk_far ?_ NB346_354.out _)); (with_reducible repeat first | apply blk_drewN | apply blk_drew | apply blk_alloc); exact BK346.out⟩, ⟨by (with_reducible repeat first | apply blk_drewN | apply blk_drew | apply blk_alloc); refine blk_put (cs := #[.int .i64 ji18, .int .i64 ji19, .int .i64 ji20, .int .i64 x353003_2]) ?_ 3 _ rfl; (with_reducible repeat first | apply blk_drewN | apply blk_drew | apply blk_alloc); refine blk_put (cs := #[.int .i64 ji18, .int .i64 ji19, .int .i64 x353002_2, .int .i64 x353003_2]) ?_ 2 _ rfl; (with_reducible repeat first | apply blk_drewN | apply blk_drew | apply blk_alloc); refine blk_put (cs := #[.int .i64 ji18, .int .i64 x353001_2, .int .i64 x353002_2, .int .i64 x353003_2]) ?_ 1 _ rfl; (with_reducible repeat first | apply blk_drewN | apply blk_drew | apply blk_alloc); refine blk_put (cs := #[.int .i64 x353000_2, .int .i64 x353001_2, .int .i64 x353002_2, .int .i64 x353003_2]) ?_ 0 _ rfl; (iterate 2 ((with_reducible repeat first | apply blk_drewN | apply blk_drew | apply blk_alloc); refine blk_far ?_ NB352_354.out _)); (with_reducible repeat first | apply blk_drewN | apply blk_drew | apply blk_alloc); exact BK352.out⟩, ⟨by repeat with_reducible first | exact HB.out | apply below_alloc | apply pw_below_drewN | apply below_drew1 | refine below_set ?_ GE346.out | refine below_set ?_ GE352.out | refine below_set ?_ GE354.out⟩⟩
        ·rw [if_neg c17] at H
         exact absurd H (by simp)
       ·rw [if_neg c16] at H
        have c16b0 : decide (x5_2 < (l0.length : Int)) = false := decide_eq_false c16; clear c16; simp only [Option.some.injEq, Prod.mk.injEq] at H; obtain ⟨rfl, rfl, rfl, rfl, rfl⟩ := H; have hnb28 := NB352_346.out; have hnc28 := NB346_352.out; have hcz29_0 : wr.cell? ⟨gb352, 0, none⟩ = some (.int .i64 x353000_2) := (blk_cell BK352.out 0).trans rfl; have hcz29_1 : wr.cell? ⟨gb352, 1, none⟩ = some (.int .i64 x353001_2) := (blk_cell BK352.out 1).trans rfl; have hcz29_2 : wr.cell? ⟨gb352, 2, none⟩ = some (.int .i64 x353002_2) := (blk_cell BK352.out 2).trans rfl; have hcz29_3 : wr.cell? ⟨gb352, 3, none⟩ = some (.int .i64 x353003_2) := (blk_cell BK352.out 3).trans rfl; have hfz29_0 := blk_frozen BK352.out 0; have hfz29_1 := blk_frozen BK352.out 1; have hfz29_2 := blk_frozen BK352.out 2; have hfz29_3 := blk_frozen BK352.out 3; have hcz30_0 : wr.cell? ⟨gb346, 0, none⟩ = some (.int .i64 0) := (blk_cell BK346.out 0).trans rfl; have hcz30_1 : wr.cell? ⟨gb346, 1, none⟩ = some (.int .i64 0) := (blk_cell BK346.out 1).trans rfl; have hcz30_2 : wr.cell? ⟨gb346, 2, none⟩ = some (.int .i64 0) := (blk_cell BK346.out 2).trans rfl; have hcz30_3 : wr.cell? ⟨gb346, 3, none⟩ = some (.int .i64 0) := (blk_cell BK346.out 3).trans rfl; have hfz30_0 := blk_frozen BK346.out 0; have hfz30_1 := blk_frozen BK346.out 1; have hfz30_2 := blk_frozen BK346.out 2; have hfz30_3 := blk_frozen BK346.out 3
        go_wp2
        refine bodyPost_ret (results_ct rfl _ _ gb346 34 #[.int .i64 x353000_2, .int .i64 x353001_2, .int .i64 x353002_2, .int .i64 x353003_2] (0, 0) _ rfl (by (with_reducible repeat first | apply blk_drewN | apply blk_drew | apply blk_alloc); refine blk_put (cs := #[.int .i64 x353000_2, .int .i64 x353001_2, .int .i64 x353002_2, .int .i64 0]) ?_ 3 _ rfl; (with_reducible repeat first | apply blk_drewN | apply blk_drew | apply blk_alloc); refine blk_put (cs := #[.int .i64 x353000_2, .int .i64 x353001_2, .int .i64 0, .int .i64 0]) ?_ 2 _ rfl; (with_reducible repeat first | apply blk_drewN | apply blk_drew | apply blk_alloc); refine blk_put (cs := #[.int .i64 x353000_2, .int .i64 0, .int .i64 0, .int .i64 0]) ?_ 1 _ rfl; (with_reducible repeat first | apply blk_drewN | apply blk_drew | apply blk_alloc); refine blk_put (cs := #[.int .i64 0, .int .i64 0, .int .i64 0, .int .i64 0]) ?_ 0 _ rfl; (with_reducible repeat first | apply blk_drewN | apply blk_drew | apply blk_alloc); exact BK346.out) Try.underlying34 rfl (by kernel_rfl)) rfl ?_; exact ⟨by first | rfl | (simp [errW_none, errW_some] <;> rfl) | (simp [*, errW_none, errW_some] <;> rfl), by repeat with_reducible first | exact HB.out | apply below_alloc | apply pw_below_drewN | apply below_drew1 | refine below_set ?_ GE346.out | refine below_set ?_ GE352.out⟩
    ·rw [if_neg c9] at H
     exact absurd H (by simp)

end Go.Proofs.Ytggafoldccikdaa.PAll
