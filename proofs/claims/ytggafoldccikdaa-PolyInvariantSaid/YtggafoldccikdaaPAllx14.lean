import Derived.Test.YtggafoldccikdaaPAllx0
import Derived.Test.YtggafoldccikdaaPAllx1
namespace Go.Proofs.Ytggafoldccikdaa.PAll
open Go.RowKit Go.Proofs.YtggafoldccikdaaW.PrintWords Go.Proofs.YtggafoldccikdaaW.PrintLast Go.Proofs.YtggafoldccikdaaW.PrintMore
attribute [local go_sem] max2_int min2_int max_two min_two max_three min_three max_four min_four
set_option linter.unusedVariables false
set_option linter.unusedSimpArgs false
attribute [local irreducible] Calls

attribute [local go_sem high] eqA30
/-! ### seg_flat: function 53 -/
mutual
def seg_flat.j0 : Nat → Int → Int → Int → Int → Int → Int → Int → Int → Option (Int)
 | 0, _, _, _, _, _, _, _, _ => none
 | k + 1, x133000, x133001, x133002, x133003, x134000, x134001, x135000, x135001 => (grid_Less.f x133002 x133003 x135000 x135001).bind fun t136 => (if t136 = true then (seg_flat.j1 k x134000 x134001 x133002 x133003) else (seg_flat.j1 k x134000 x134001 x135000 x135001))
def seg_flat.j1 : Nat → Int → Int → Int → Int → Option (Int)
 | 0, _, _, _, _ => none
 | k + 1, x134000, x134001, x135000, x135001 => (grid_Less.f x134000 x134001 x135000 x135001).bind fun t137 => (if t137 = true then (some 3) else (if (x134000 == x135000 && (x134001 == x135001)) = true then (some 1) else (some 0)))
end
def seg_flat.f (k : Nat) (a0_0 : Int) (a0_1 : Int) (a0_2 : Int) (a0_3 : Int) (a1_0 : Int) (a1_1 : Int) (a1_2 : Int) (a1_3 : Int) : Option (Int) := (grid_Less.f a0_0 a0_1 a1_0 a1_1).bind fun t135 => (if t135 = true then (seg_flat.j0 k a1_0 a1_1 a1_2 a1_3 a1_0 a1_1 a0_2 a0_3) else (seg_flat.j0 k a1_0 a1_1 a1_2 a1_3 a0_0 a0_1 a0_2 a0_3))
theorem seg_flat.mono_l : ∀ k, (∀ y0 y1 y2 y3 y4 y5 y6 y7, LeO (seg_flat.j0 k y0 y1 y2 y3 y4 y5 y6 y7) (seg_flat.j0 (k + 1) y0 y1 y2 y3 y4 y5 y6 y7)) ∧ (∀ y0 y1 y2 y3, LeO (seg_flat.j1 k y0 y1 y2 y3) (seg_flat.j1 (k + 1) y0 y1 y2 y3))
 | 0 => ⟨fun _ _ _ _ _ _ _ _ r h => by simp [seg_flat.j0] at h, fun _ _ _ _ r h => by simp [seg_flat.j1] at h⟩
 | k + 1 => by
  obtain ⟨ih0, ih1⟩ := seg_flat.mono_l k
  refine ⟨?_, ?_⟩
  ·intro y0 y1 y2 y3 y4 y5 y6 y7
   unfold seg_flat.j0
   repeat' first
   | (with_reducible exact ih0 _ _ _ _ _ _ _ _)
   | (with_reducible exact ih1 _ _ _ _)
   | (with_reducible exact LeO.refl _)
   | (with_reducible exact LeO.none _)
   | (with_reducible refine LeO.ite ?_ ?_)
   | (with_reducible refine LeO.bind ?_ (fun _ => ?_))
   | exact ih0 _ _ _ _ _ _ _ _
   | exact ih1 _ _ _ _
   | exact LeO.none _
   | refine LeO.ite ?_ ?_
   | refine LeO.bind ?_ (fun _ => ?_)
  ·intro y0 y1 y2 y3
   unfold seg_flat.j1
   repeat' first
   | (with_reducible exact ih0 _ _ _ _ _ _ _ _)
   | (with_reducible exact ih1 _ _ _ _)
   | (with_reducible exact LeO.refl _)
   | (with_reducible exact LeO.none _)
   | (with_reducible refine LeO.ite ?_ ?_)
   | (with_reducible refine LeO.bind ?_ (fun _ => ?_))
   | exact ih0 _ _ _ _ _ _ _ _
   | exact ih1 _ _ _ _
   | exact LeO.none _
   | refine LeO.ite ?_ ?_
   | refine LeO.bind ?_ (fun _ => ?_)
theorem seg_flat.mono : ∀ a0 a1 a2 a3 a4 a5 a6 a7 k, LeO (seg_flat.f k a0 a1 a2 a3 a4 a5 a6 a7) (seg_flat.f (k + 1) a0 a1 a2 a3 a4 a5 a6 a7) := by
 intro a0 a1 a2 a3 a4 a5 a6 a7 k
 obtain ⟨ih0, ih1⟩ := seg_flat.mono_l k
 unfold seg_flat.f
 repeat' first
   | (with_reducible exact ih0 _ _ _ _ _ _ _ _)
   | (with_reducible exact ih1 _ _ _ _)
   | (with_reducible exact LeO.refl _)
   | (with_reducible exact LeO.none _)
   | (with_reducible refine LeO.ite ?_ ?_)
   | (with_reducible refine LeO.bind ?_ (fun _ => ?_))
   | exact ih0 _ _ _ _ _ _ _ _
   | exact ih1 _ _ _ _
   | exact LeO.none _
   | refine LeO.ite ?_ ?_
   | refine LeO.bind ?_ (fun _ => ?_)
def seg_flat.T1 : Bool × List (List Nat × List Nat) := (true, [([], []), ([0], [0]), ([], []), ([2], [2]), ([], []), ([], []), ([4, 1, 0, 1, 4, 5], [1, 4]), ([5, 3, 6, 0, 1, 2, 3, 4, 5, 6], [3, 5])])
def seg_flat.B1 : List Nat := [0, 1, 0, 4, 0, 0, 51, 127]
theorem seg_flat.tab1 : rtab .any (opsOf Try.f53 1) = seg_flat.T1 := by kernel_rfl
theorem seg_flat.bits1 : waitsOk seg_flat.T1.2 seg_flat.B1 = true := by kernel_rfl
set_option maxHeartbeats 8000000 in
set_option maxRecDepth 100000 in
theorem seg_flat.calls (k : Nat) (a0_0 : Int) (a0_1 : Int) (a0_2 : Int) (a0_3 : Int) (a1_0 : Int) (a1_1 : Int) (a1_2 : Int) (a1_3 : Int) (r : Int) (w : World) (h : seg_flat.f k a0_0 a0_1 a0_2 a0_3 a1_0 a1_1 a1_2 a1_3 = some r) :
  Calls Try.prog 53 #[.agg #[.int .i64 a0_0, .int .i64 a0_1, .int .i64 a0_2, .int .i64 a0_3], .agg #[.int .i64 a1_0, .int .i64 a1_1, .int .i64 a1_2, .int .i64 a1_3]] w fun e w' => e = .returned (.int .i64 r) ∧ Below w.heap.size w w' := by
 have hu45 := Try.underlying45; have hu30 := Try.underlying30; have HB := Aside0.mk (Below.refl w.heap.size w); have H : ((grid_Less.f a0_0 a0_1 a1_0 a1_1).bind fun t135 => (if t135 = true then (seg_flat.j0 k a1_0 a1_1 a1_2 a1_3 a1_0 a1_1 a0_2 a0_3) else (seg_flat.j0 k a1_0 a1_1 a1_2 a1_3 a0_0 a0_1 a0_2 a0_3))) = some r := h; clear h; replace H := Option.bind_eq_some_iff.mp H; obtain ⟨t135, A30, H⟩ := H; replace H : (if t135 = true then (seg_flat.j0 k a1_0 a1_1 a1_2 a1_3 a1_0 a1_1 a0_2 a0_3) else (seg_flat.j0 k a1_0 a1_1 a1_2 a1_3 a0_0 a0_1 a0_2 a0_3)) = some r := H; have A3 := Aside0.mk A30; clear A30; have HC4 := Aside0.mk H; clear H
 go_enter Try.func53, Try.ntmps53
 try go_wp2_with (first | ((with_reducible refine gate_dst (N := 2) rfl ?_); refine box_event ?hg (N := 2) ?hd (cs := #[.int .i64 a0_0, .int .i64 a0_1, .int .i64 a0_2, .int .i64 a0_3]) (t := 45) ?hr ?_; (case hd => rfl); (case hg => rfl); (case hr => first | (go_simp; done) | (go_simp; rfl)); intro gb131 hg w5 hbox hb; have n0_ := Aside0.mk (below_step (by repeat with_reducible first | exact HB.out | apply below_alloc | apply pw_below_drewN | apply below_drew1) hb); have n1_ := Aside0.mk (hbox); have n2_ := Aside0.mk ((by rw [hg]; exact (below_size (by repeat with_reducible first | exact HB.out | apply below_alloc | apply pw_below_drewN | apply below_drew1)) : w.heap.size ≤ gb131)); have n3_ := n2_; clear HB; have HB := n0_; have BK131 := n1_; have GW131 := n2_; have GE131 := n3_; clear n0_ n1_ n2_ n3_ hb hbox hg) | ((with_reducible refine gate_dst (N := 3) rfl ?_); refine box_event ?hg (N := 3) ?hd (cs := #[.int .i64 a1_0, .int .i64 a1_1, .int .i64 a1_2, .int .i64 a1_3]) (t := 45) ?hr ?_; (case hd => rfl); (case hg => rfl); (case hr => first | (go_simp; done) | (go_simp; rfl)); intro gb132 hg w6 hbox hb; have n0_ := Aside0.mk (blk_below (by (with_reducible repeat first | apply blk_drewN | apply blk_drew | apply blk_alloc); exact BK131.out) hb); have n1_ := Aside0.mk (below_step (by repeat with_reducible first | exact HB.out | apply below_alloc | apply pw_below_drewN | apply below_drew1 | refine below_set ?_ GE131.out) hb); have n2_ := Aside0.mk (hbox); have n3_ := Aside0.mk ((by rw [hg]; exact (below_size (by repeat with_reducible first | exact HB.out | apply below_alloc | apply pw_below_drewN | apply below_drew1 | refine below_set ?_ GE131.out)) : w.heap.size ≤ gb132)); have n4_ := n3_; have n5_ := Aside0.mk ((by rw [hg]; exact Nat.ne_of_lt (blk_lt (by (with_reducible repeat first | apply blk_drewN | apply blk_drew | apply blk_alloc); exact BK131.out)) : gb131 ≠ gb132)); have n6_ : Aside0 (gb132 ≠ gb131) := ⟨Ne.symm n5_.out⟩; clear BK131 HB; have BK131 := n0_; have HB := n1_; have BK132 := n2_; have GW132 := n3_; have GE132 := n4_; have NB131_132 := n5_; have NB132_131 := n6_; clear n0_ n1_ n2_ n3_ n4_ n5_ n6_ hb hbox hg))
 have n0_ := Aside0.mk (blk_drew BK131.out); have n1_ := Aside0.mk (blk_drew BK132.out); have n2_ := Aside0.mk (below_drew1 HB.out); clear BK131 BK132 HB; have BK131 := n0_; have BK132 := n1_; have HB := n2_; clear n0_ n1_ n2_; refine start_ (n := 8) (S := fun w' => w'.cell? ⟨gb131, 0, none⟩ = some (.int .i64 a0_0) ∧ w'.cell? ⟨gb131, 1, none⟩ = some (.int .i64 a0_1) ∧ w'.cell? ⟨gb131, 2, none⟩ = some (.int .i64 a0_2) ∧ w'.cell? ⟨gb131, 3, none⟩ = some (.int .i64 a0_3)) (ds := []) #[F, F, F, F, F, F, F, F] (by kernel_rfl) rfl rfl ⟨(blk_cell BK131.out 0).trans rfl, (blk_cell BK131.out 1).trans rfl, (blk_cell BK131.out 2).trans rfl, (blk_cell BK131.out 3).trans rfl⟩ (fun hHeld => ?_); refine with_tabW seg_flat.tab1 seg_flat.bits1 (fun HT_ HW_ => ?_); generalize w6.drew = w7 at BK131 BK132 HB hHeld ⊢
 refine pure_ (i := 0) (N := some 7) (v := ?_) (a' := ?_) #[T, F, F, F, F, F, F, F] rfl rfl (any_of HT_.out (by kernel_rfl)) (fun _ _ _ h => h) (Or.inl ⟨by rfl, ?_⟩) ?_ ?_; rotate_left
 ·intro w'; go_simp; with_reducible rfl
 rotate_left
 ·go_simp
  rfl
 refine pure_ (i := 2) (N := some 9) (v := ?_) (a' := ?_) #[T, F, T, F, F, F, F, F] rfl rfl (any_of HT_.out (by kernel_rfl)) (fun _ _ _ h => h) (Or.inl ⟨by rfl, ?_⟩) ?_ ?_; rotate_left
 ·intro w'; go_simp; with_reducible rfl
 rotate_left
 ·go_simp
  rfl
 refine take_ (i := 1) (N := some 8) (v := ?_) (a' := ?_) #[T, T, T, F, F, F, F, F] rfl rfl (take_ofW HT_.out HW_.out (by kernel_rfl)) (fun _ _ _ h => h) (Or.inl ⟨by rfl, ?_⟩) hHeld ?_ ?_; rotate_left
 ·rintro w' ⟨s0, s1, s2, s3⟩; go_simp; with_reducible rfl
 rotate_left
 ·go_simp
  rfl
 refine take_ (i := 3) (N := some 10) (v := ?_) (a' := ?_) #[T, T, T, T, F, F, F, F] rfl rfl (take_ofW HT_.out HW_.out (by kernel_rfl)) (fun _ _ _ h => h) (Or.inl ⟨by rfl, ?_⟩) hHeld ?_ ?_; rotate_left
 ·rintro w' ⟨s0, s1, s2, s3⟩; go_simp; with_reducible rfl
 rotate_left
 ·go_simp
  rfl
 refine join_ (σ := Nat × Nat) 2 #[T, T, T, T, T, T, F, F] (fun s_ => [(5, .pointer (some ⟨s_.1, 0, none⟩)), (6, .pointer (some ⟨s_.2, 0, none⟩))]) (fun s_ w' => (w'.cell? ⟨gb131, 0, none⟩ = some (.int .i64 a0_0) ∧ w'.cell? ⟨gb131, 1, none⟩ = some (.int .i64 a0_1) ∧ w'.cell? ⟨gb131, 2, none⟩ = some (.int .i64 a0_2) ∧ w'.cell? ⟨gb131, 3, none⟩ = some (.int .i64 a0_3)) ∧ (w'.heap[gb131]? = some (.cells #[.int .i64 a0_0, .int .i64 a0_1, .int .i64 a0_2, .int .i64 a0_3] 45 (0, 0))) ∧ (w'.heap[gb132]? = some (.cells #[.int .i64 a1_0, .int .i64 a1_1, .int .i64 a1_2, .int .i64 a1_3] 45 (0, 0))) ∧ (w'.heap[s_.1]? = some (.cells #[.int .i64 0, .int .i64 0] 30 (0, 0))) ∧ (w'.heap[s_.2]? = some (.cells #[.int .i64 0, .int .i64 0] 30 (0, 0))) ∧ (w.heap.size ≤ s_.1) ∧ (w.heap.size ≤ s_.1) ∧ (gb131 ≠ s_.1) ∧ (s_.1 ≠ gb131) ∧ (gb132 ≠ s_.1) ∧ (s_.1 ≠ gb132) ∧ (s_.2 ≠ s_.1) ∧ (s_.1 ≠ s_.2) ∧ (w.heap.size ≤ s_.2) ∧ (w.heap.size ≤ s_.2) ∧ (gb131 ≠ s_.2) ∧ (s_.2 ≠ gb131) ∧ (gb132 ≠ s_.2) ∧ (s_.2 ≠ gb132) ∧ (Below w.heap.size w w')) ?_ ?_; rotate_left
 ·intro hCont; refine two_ (i := 4) (j := 5) (Ni := some 5) (Nj := some 6) #[T, T, T, T, T, F, F, F] #[T, T, T, T, F, T, F, F] rfl rfl rfl rfl (two_of HT_.out (by kernel_rfl)) (by decide) (by decide) (fun K hK => ?_) (fun K hK => ?_)
  ·skip; refine box_step ?hg (N := 5) ?hd (cs := #[.int .i64 0, .int .i64 0]) (t := 30) ?hr ?_; (case hd => rfl); (case hg => rfl); (case hr => first | (go_simp; done) | (go_simp; rfl)); intro gb133 hg w8 hbox hb; have n0_ := Aside0.mk (blk_below (by (with_reducible repeat first | apply blk_drewN | apply blk_drew | apply blk_alloc); exact BK131.out) hb); have n1_ := Aside0.mk (blk_below (by (with_reducible repeat first | apply blk_drewN | apply blk_drew | apply blk_alloc); exact BK132.out) hb); have n2_ := Aside0.mk (below_step (by repeat with_reducible first | exact HB.out | apply below_alloc | apply pw_below_drewN | apply below_drew1 | refine below_set ?_ GE131.out | refine below_set ?_ GE132.out) hb); have n3_ := Aside0.mk (hbox); have n4_ := Aside0.mk ((by rw [hg]; exact (below_size (by repeat with_reducible first | exact HB.out | apply below_alloc | apply pw_below_drewN | apply below_drew1 | refine below_set ?_ GE131.out | refine below_set ?_ GE132.out)) : w.heap.size ≤ gb133)); have n5_ := n4_; have n6_ := Aside0.mk ((by rw [hg]; exact Nat.ne_of_lt (blk_lt (by (with_reducible repeat first | apply blk_drewN | apply blk_drew | apply blk_alloc); exact BK131.out)) : gb131 ≠ gb133)); have n7_ : Aside0 (gb133 ≠ gb131) := ⟨Ne.symm n6_.out⟩; have n8_ := Aside0.mk ((by rw [hg]; exact Nat.ne_of_lt (blk_lt (by (with_reducible repeat first | apply blk_drewN | apply blk_drew | apply blk_alloc); exact BK132.out)) : gb132 ≠ gb133)); have n9_ : Aside0 (gb133 ≠ gb132) := ⟨Ne.symm n8_.out⟩; clear BK131 BK132 HB; have BK131 := n0_; have BK132 := n1_; have HB := n2_; have BK133 := n3_; have GW133 := n4_; have GE133 := n5_; have NB131_133 := n6_; have NB133_131 := n7_; have NB132_133 := n8_; have NB133_132 := n9_; clear n0_ n1_ n2_ n3_ n4_ n5_ n6_ n7_ n8_ n9_ hb hbox hg; refine hK.out _ _ ⟨(blk_cell BK131.out 0).trans rfl, (blk_cell BK131.out 1).trans rfl, (blk_cell BK131.out 2).trans rfl, (blk_cell BK131.out 3).trans rfl⟩ (fun hHeld => ?_); clear hK K; refine norm_ (a' := ?_) ?_ ?_; rotate_left
   ·show Act.put _ (some 5) _ = _; go_simp; rfl
   refine one_ (i := 5) (N := some 6) #[T, T, T, T, T, T, F, F] rfl rfl (one_of HT_.out (by kernel_rfl)) (by decide) (fun K hK => ?_); refine box_step ?hg (N := 6) ?hd (cs := #[.int .i64 0, .int .i64 0]) (t := 30) ?hr ?_; (case hd => rfl); (case hg => rfl); (case hr => first | (go_simp; done) | (go_simp; rfl)); intro gb134 hg w9 hbox hb; have n0_ := Aside0.mk (blk_below (by (with_reducible repeat first | apply blk_drewN | apply blk_drew | apply blk_alloc); exact BK131.out) hb); have n1_ := Aside0.mk (blk_below (by (with_reducible repeat first | apply blk_drewN | apply blk_drew | apply blk_alloc); exact BK132.out) hb); have n2_ := Aside0.mk (blk_below (by (with_reducible repeat first | apply blk_drewN | apply blk_drew | apply blk_alloc); exact BK133.out) hb); have n3_ := Aside0.mk (below_step (by repeat with_reducible first | exact HB.out | apply below_alloc | apply pw_below_drewN | apply below_drew1 | refine below_set ?_ GE131.out | refine below_set ?_ GE132.out | refine below_set ?_ GE133.out) hb); have n4_ := Aside0.mk (hbox); have n5_ := Aside0.mk ((by rw [hg]; exact (below_size (by repeat with_reducible first | exact HB.out | apply below_alloc | apply pw_below_drewN | apply below_drew1 | refine below_set ?_ GE131.out | refine below_set ?_ GE132.out | refine below_set ?_ GE133.out)) : w.heap.size ≤ gb134)); have n6_ := n5_; have n7_ := Aside0.mk ((by rw [hg]; exact Nat.ne_of_lt (blk_lt (by (with_reducible repeat first | apply blk_drewN | apply blk_drew | apply blk_alloc); exact BK131.out)) : gb131 ≠ gb134)); have n8_ : Aside0 (gb134 ≠ gb131) := ⟨Ne.symm n7_.out⟩; have n9_ := Aside0.mk ((by rw [hg]; exact Nat.ne_of_lt (blk_lt (by (with_reducible repeat first | apply blk_drewN | apply blk_drew | apply blk_alloc); exact BK132.out)) : gb132 ≠ gb134)); have n10_ : Aside0 (gb134 ≠ gb132) := ⟨Ne.symm n9_.out⟩; have n11_ := Aside0.mk ((by rw [hg]; exact Nat.ne_of_lt (blk_lt (by (with_reducible repeat first | apply blk_drewN | apply blk_drew | apply blk_alloc); exact BK133.out)) : gb133 ≠ gb134)); have n12_ : Aside0 (gb134 ≠ gb133) := ⟨Ne.symm n11_.out⟩; clear BK131 BK132 BK133 HB; have BK131 := n0_; have BK132 := n1_; have BK133 := n2_; have HB := n3_; have BK134 := n4_; have GW134 := n5_; have GE134 := n6_; have NB131_134 := n7_; have NB134_131 := n8_; have NB132_134 := n9_; have NB134_132 := n10_; have NB133_134 := n11_; have NB134_133 := n12_; clear n0_ n1_ n2_ n3_ n4_ n5_ n6_ n7_ n8_ n9_ n10_ n11_ n12_ hb hbox hg; refine hK.out _ _ ⟨(blk_cell BK131.out 0).trans rfl, (blk_cell BK131.out 1).trans rfl, (blk_cell BK131.out 2).trans rfl, (blk_cell BK131.out 3).trans rfl⟩ (fun hHeld => ?_); clear hK K; refine norm_ (a' := ?_) ?_ ?_; rotate_left
   ·show Act.put _ (some 6) _ = _; go_simp; rfl
   exact norm_ (by simp only [putAll, Act.put, List.setIfInBounds_toArray, List.set_cons_zero, List.set_cons_succ]) (hCont (gb133, gb134) _ ⟨hHeld, (by (with_reducible repeat first | apply blk_drewN | apply blk_drew | apply blk_alloc); exact BK131.out), (by (with_reducible repeat first | apply blk_drewN | apply blk_drew | apply blk_alloc); exact BK132.out), (by (with_reducible repeat first | apply blk_drewN | apply blk_drew | apply blk_alloc); exact BK133.out), (by (with_reducible repeat first | apply blk_drewN | apply blk_drew | apply blk_alloc); exact BK134.out), GW133.out, GE133.out, NB131_133.out, NB133_131.out, NB132_133.out, NB133_132.out, NB134_133.out, NB133_134.out, GW134.out, GE134.out, NB131_134.out, NB134_131.out, NB132_134.out, NB134_132.out, (by repeat with_reducible first | exact HB.out | apply below_alloc | apply pw_below_drewN | apply below_drew1 | refine below_set ?_ GE131.out | refine below_set ?_ GE132.out | refine below_set ?_ GE133.out | refine below_set ?_ GE134.out)⟩)
  ·skip; refine box_step ?hg (N := 6) ?hd (cs := #[.int .i64 0, .int .i64 0]) (t := 30) ?hr ?_; (case hd => rfl); (case hg => rfl); (case hr => first | (go_simp; done) | (go_simp; rfl)); intro gb134 hg w8 hbox hb; have n0_ := Aside0.mk (blk_below (by (with_reducible repeat first | apply blk_drewN | apply blk_drew | apply blk_alloc); exact BK131.out) hb); have n1_ := Aside0.mk (blk_below (by (with_reducible repeat first | apply blk_drewN | apply blk_drew | apply blk_alloc); exact BK132.out) hb); have n2_ := Aside0.mk (below_step (by repeat with_reducible first | exact HB.out | apply below_alloc | apply pw_below_drewN | apply below_drew1 | refine below_set ?_ GE131.out | refine below_set ?_ GE132.out) hb); have n3_ := Aside0.mk (hbox); have n4_ := Aside0.mk ((by rw [hg]; exact (below_size (by repeat with_reducible first | exact HB.out | apply below_alloc | apply pw_below_drewN | apply below_drew1 | refine below_set ?_ GE131.out | refine below_set ?_ GE132.out)) : w.heap.size ≤ gb134)); have n5_ := n4_; have n6_ := Aside0.mk ((by rw [hg]; exact Nat.ne_of_lt (blk_lt (by (with_reducible repeat first | apply blk_drewN | apply blk_drew | apply blk_alloc); exact BK131.out)) : gb131 ≠ gb134)); have n7_ : Aside0 (gb134 ≠ gb131) := ⟨Ne.symm n6_.out⟩; have n8_ := Aside0.mk ((by rw [hg]; exact Nat.ne_of_lt (blk_lt (by (with_reducible repeat first | apply blk_drewN | apply blk_drew | apply blk_alloc); exact BK132.out)) : gb132 ≠ gb134)); have n9_ : Aside0 (gb134 ≠ gb132) := ⟨Ne.symm n8_.out⟩; clear BK131 BK132 HB; have BK131 := n0_; have BK132 := n1_; have HB := n2_; have BK134 := n3_; have GW134 := n4_; have GE134 := n5_; have NB131_134 := n6_; have NB134_131 := n7_; have NB132_134 := n8_; have NB134_132 := n9_; clear n0_ n1_ n2_ n3_ n4_ n5_ n6_ n7_ n8_ n9_ hb hbox hg; refine hK.out _ _ ⟨(blk_cell BK131.out 0).trans rfl, (blk_cell BK131.out 1).trans rfl, (blk_cell BK131.out 2).trans rfl, (blk_cell BK131.out 3).trans rfl⟩ (fun hHeld => ?_); clear hK K; refine norm_ (a' := ?_) ?_ ?_; rotate_left
   ·show Act.put _ (some 6) _ = _; go_simp; rfl
   refine one_ (i := 4) (N := some 5) #[T, T, T, T, T, T, F, F] rfl rfl (one_of HT_.out (by kernel_rfl)) (by decide) (fun K hK => ?_); refine box_step ?hg (N := 5) ?hd (cs := #[.int .i64 0, .int .i64 0]) (t := 30) ?hr ?_; (case hd => rfl); (case hg => rfl); (case hr => first | (go_simp; done) | (go_simp; rfl)); intro gb133 hg w9 hbox hb; have n0_ := Aside0.mk (blk_below (by (with_reducible repeat first | apply blk_drewN | apply blk_drew | apply blk_alloc); exact BK131.out) hb); have n1_ := Aside0.mk (blk_below (by (with_reducible repeat first | apply blk_drewN | apply blk_drew | apply blk_alloc); exact BK132.out) hb); have n2_ := Aside0.mk (blk_below (by (with_reducible repeat first | apply blk_drewN | apply blk_drew | apply blk_alloc); exact BK134.out) hb); have n3_ := Aside0.mk (below_step (by repeat with_reducible first | exact HB.out | apply below_alloc | apply pw_below_drewN | apply below_drew1 | refine below_set ?_ GE131.out | refine below_set ?_ GE132.out | refine below_set ?_ GE134.out) hb); have n4_ := Aside0.mk (hbox); have n5_ := Aside0.mk ((by rw [hg]; exact (below_size (by repeat with_reducible first | exact HB.out | apply below_alloc | apply pw_below_drewN | apply below_drew1 | refine below_set ?_ GE131.out | refine below_set ?_ GE132.out | refine below_set ?_ GE134.out)) : w.heap.size ≤ gb133)); have n6_ := n5_; have n7_ := Aside0.mk ((by rw [hg]; exact Nat.ne_of_lt (blk_lt (by (with_reducible repeat first | apply blk_drewN | apply blk_drew | apply blk_alloc); exact BK131.out)) : gb131 ≠ gb133)); have n8_ : Aside0 (gb133 ≠ gb131) := ⟨Ne.symm n7_.out⟩; have n9_ := Aside0.mk ((by rw [hg]; exact Nat.ne_of_lt (blk_lt (by (with_reducible repeat first | apply blk_drewN | apply blk_drew | apply blk_alloc); exact BK132.out)) : gb132 ≠ gb133)); have n10_ : Aside0 (gb133 ≠ gb132) := ⟨Ne.symm n9_.out⟩; have n11_ := Aside0.mk ((by rw [hg]; exact Nat.ne_of_lt (blk_lt (by (with_reducible repeat first | apply blk_drewN | apply blk_drew | apply blk_alloc); exact BK134.out)) : gb134 ≠ gb133)); have n12_ : Aside0 (gb133 ≠ gb134) := ⟨Ne.symm n11_.out⟩; clear BK131 BK132 BK134 HB; have BK131 := n0_; have BK132 := n1_; have BK134 := n2_; have HB := n3_; have BK133 := n4_; have GW133 := n5_; have GE133 := n6_; have NB131_133 := n7_; have NB133_131 := n8_; have NB132_133 := n9_; have NB133_132 := n10_; have NB134_133 := n11_; have NB133_134 := n12_; clear n0_ n1_ n2_ n3_ n4_ n5_ n6_ n7_ n8_ n9_ n10_ n11_ n12_ hb hbox hg; refine hK.out _ _ ⟨(blk_cell BK131.out 0).trans rfl, (blk_cell BK131.out 1).trans rfl, (blk_cell BK131.out 2).trans rfl, (blk_cell BK131.out 3).trans rfl⟩ (fun hHeld => ?_); clear hK K; refine norm_ (a' := ?_) ?_ ?_; rotate_left
   ·show Act.put _ (some 5) _ = _; go_simp; rfl
   exact norm_ (by simp only [putAll, Act.put, List.setIfInBounds_toArray, List.set_cons_zero, List.set_cons_succ]) (hCont (gb133, gb134) _ ⟨hHeld, (by (with_reducible repeat first | apply blk_drewN | apply blk_drew | apply blk_alloc); exact BK131.out), (by (with_reducible repeat first | apply blk_drewN | apply blk_drew | apply blk_alloc); exact BK132.out), (by (with_reducible repeat first | apply blk_drewN | apply blk_drew | apply blk_alloc); exact BK133.out), (by (with_reducible repeat first | apply blk_drewN | apply blk_drew | apply blk_alloc); exact BK134.out), GW133.out, GE133.out, NB131_133.out, NB133_131.out, NB132_133.out, NB133_132.out, NB134_133.out, NB133_134.out, GW134.out, GE134.out, NB131_134.out, NB134_131.out, NB132_134.out, NB134_132.out, (by repeat with_reducible first | exact HB.out | apply below_alloc | apply pw_below_drewN | apply below_drew1 | refine below_set ?_ GE131.out | refine below_set ?_ GE132.out | refine below_set ?_ GE134.out | refine below_set ?_ GE133.out)⟩)
 rintro ⟨gb133, gb134⟩ w10 ⟨hS_, h0_, h1_, h2_, h3_, h4_, h5_, h6_, h7_, h8_, h9_, h10_, h11_, h12_, h13_, h14_, h15_, h16_, h17_, h18_⟩; clear BK131 BK132 HB; have BK131 := Aside0.mk h0_; have BK132 := Aside0.mk h1_; have BK133 := Aside0.mk h2_; have BK134 := Aside0.mk h3_; have GW133 := Aside0.mk h4_; have GE133 := Aside0.mk h5_; have NB131_133 := Aside0.mk h6_; have NB133_131 := Aside0.mk h7_; have NB132_133 := Aside0.mk h8_; have NB133_132 := Aside0.mk h9_; have NB134_133 := Aside0.mk h10_; have NB133_134 := Aside0.mk h11_; have GW134 := Aside0.mk h12_; have GE134 := Aside0.mk h13_; have NB131_134 := Aside0.mk h14_; have NB134_131 := Aside0.mk h15_; have NB132_134 := Aside0.mk h16_; have NB134_132 := Aside0.mk h17_; have HB := Aside0.mk h18_; clear h0_ h1_ h2_ h3_ h4_ h5_ h6_ h7_ h8_ h9_ h10_ h11_ h12_ h13_ h14_ h15_ h16_ h17_ h18_; have hHeld : w10.cell? ⟨gb131, 0, none⟩ = some (.int .i64 a0_0) ∧ w10.cell? ⟨gb131, 1, none⟩ = some (.int .i64 a0_1) ∧ w10.cell? ⟨gb131, 2, none⟩ = some (.int .i64 a0_2) ∧ w10.cell? ⟨gb131, 3, none⟩ = some (.int .i64 a0_3) := hS_; refine norm_ (a' := ?_) ?_ ?_; rotate_left
 ·simp only [putAll, Act.put, List.setIfInBounds_toArray, List.set_cons_zero, List.set_cons_succ]; rfl
 refine one_ (i := 6) (N := none) #[T, T, T, T, T, T, T, F] rfl rfl (one_of HT_.out (by kernel_rfl)) (by decide) (fun K hK => ?_); have hs11 : w10.cell? ⟨gb133, 0, none⟩ = some (.int .i64 0) := (blk_cell BK133.out 0).trans rfl; have hfs11 := blk_frozen BK133.out 0; have hns11_0 := NB131_133.out; have hns11_1 := NB132_133.out; have hns11_3 := NB134_133.out; have hms11_0 := NB133_131.out; have hms11_1 := NB133_132.out; have hms11_3 := NB133_134.out; have hs12 : w10.cell? ⟨gb133, 1, none⟩ = some (.int .i64 0) := (blk_cell BK133.out 1).trans rfl; have hfs12 := blk_frozen BK133.out 1; have hns12_0 := NB131_133.out; have hns12_1 := NB132_133.out; have hns12_3 := NB134_133.out; have hms12_0 := NB133_131.out; have hms12_1 := NB133_132.out; have hms12_3 := NB133_134.out; refine skip_ (w1 := ?_) (by rfl) rfl ?_ ?_; rotate_left
 ·go_simp
  rfl
 refine hK.out _ _ ⟨((cell_far (p := ⟨gb133, _, none⟩) NB131_133.out _).trans (((cell_far (p := ⟨gb133, _, none⟩) NB131_133.out _).trans (hHeld.1)))), ((cell_far (p := ⟨gb133, _, none⟩) NB131_133.out _).trans (((cell_far (p := ⟨gb133, _, none⟩) NB131_133.out _).trans (hHeld.2.1)))), ((cell_far (p := ⟨gb133, _, none⟩) NB131_133.out _).trans (((cell_far (p := ⟨gb133, _, none⟩) NB131_133.out _).trans (hHeld.2.2.1)))), ((cell_far (p := ⟨gb133, _, none⟩) NB131_133.out _).trans (((cell_far (p := ⟨gb133, _, none⟩) NB131_133.out _).trans (hHeld.2.2.2))))⟩ (fun hHeld => ?_); clear hK K; refine one_ (i := 7) (N := none) #[T, T, T, T, T, T, T, T] rfl rfl (one_of HT_.out (by kernel_rfl)) (by decide) (fun K hK => ?_); have hs13 : w10.cell? ⟨gb134, 0, none⟩ = some (.int .i64 0) := (blk_cell BK134.out 0).trans rfl; have hfs13 := blk_frozen BK134.out 0; have hns13_0 := NB131_134.out; have hns13_1 := NB132_134.out; have hns13_2 := NB133_134.out; have hms13_0 := NB134_131.out; have hms13_1 := NB134_132.out; have hms13_2 := NB134_133.out; have hs14 : w10.cell? ⟨gb134, 1, none⟩ = some (.int .i64 0) := (blk_cell BK134.out 1).trans rfl; have hfs14 := blk_frozen BK134.out 1; have hns14_0 := NB131_134.out; have hns14_1 := NB132_134.out; have hns14_2 := NB133_134.out; have hms14_0 := NB134_131.out; have hms14_1 := NB134_132.out; have hms14_2 := NB134_133.out; refine skip_ (w1 := ?_) (by rfl) rfl ?_ ?_; rotate_left
 ·go_simp
  rfl
 refine hK.out _ _ ⟨((cell_far (p := ⟨gb134, _, none⟩) NB131_134.out _).trans (((cell_far (p := ⟨gb134, _, none⟩) NB131_134.out _).trans (hHeld.1)))), ((cell_far (p := ⟨gb134, _, none⟩) NB131_134.out _).trans (((cell_far (p := ⟨gb134, _, none⟩) NB131_134.out _).trans (hHeld.2.1)))), ((cell_far (p := ⟨gb134, _, none⟩) NB131_134.out _).trans (((cell_far (p := ⟨gb134, _, none⟩) NB131_134.out _).trans (hHeld.2.2.1)))), ((cell_far (p := ⟨gb134, _, none⟩) NB131_134.out _).trans (((cell_far (p := ⟨gb134, _, none⟩) NB131_134.out _).trans (hHeld.2.2.2))))⟩ (fun hHeld => ?_); clear hK K; refine done_ (done_of HT_.out (by kernel_rfl)) ?_; have hnb15 := NB133_131.out; have hnc15 := NB131_133.out; have hnb16 := NB133_132.out; have hnc16 := NB132_133.out; have hnb17 := NB133_134.out; have hnc17 := NB134_133.out; have hcz18_0 : w10.cell? ⟨gb133, 0, none⟩ = some (.int .i64 0) := (blk_cell BK133.out 0).trans rfl; have hcz18_1 : w10.cell? ⟨gb133, 1, none⟩ = some (.int .i64 0) := (blk_cell BK133.out 1).trans rfl; have hfz18_0 := blk_frozen BK133.out 0; have hfz18_1 := blk_frozen BK133.out 1; have hnb19 := NB132_131.out; have hnc19 := NB131_132.out; have hnb20 := NB132_134.out; have hnc20 := NB134_132.out; have hcz21_0 : w10.cell? ⟨gb132, 0, none⟩ = some (.int .i64 a1_0) := (blk_cell BK132.out 0).trans rfl; have hcz21_1 : w10.cell? ⟨gb132, 1, none⟩ = some (.int .i64 a1_1) := (blk_cell BK132.out 1).trans rfl; have hcz21_2 : w10.cell? ⟨gb132, 2, none⟩ = some (.int .i64 a1_2) := (blk_cell BK132.out 2).trans rfl; have hcz21_3 : w10.cell? ⟨gb132, 3, none⟩ = some (.int .i64 a1_3) := (blk_cell BK132.out 3).trans rfl; have hfz21_0 := blk_frozen BK132.out 0; have hfz21_1 := blk_frozen BK132.out 1; have hfz21_2 := blk_frozen BK132.out 2; have hfz21_3 := blk_frozen BK132.out 3
 go_upto_if 14 with (first | ((with_reducible refine gate_callee (f := 44) rfl ?_); refine goesL_ (some 14) rfl rfl Try.func44 (by kernel_rfl) rfl #[.agg #[.int .i64 a0_0, .int .i64 a0_1], .agg #[.int .i64 a1_0, .int .i64 a1_1]] rfl (by (try simp only [List.map_toArray, List.map_cons, List.map_nil]); first | done | rfl | (simp only [List.length_drop, List.length_take]; rfl)) ?_; (with_reducible refine (grid_Less.calls a0_0 a0_1 a1_0 a1_1 t135 _ A3.out).mono ?_); rintro e w22 ⟨rfl, hb⟩; refine ⟨_, rfl, ?_⟩; have n0_ := Aside0.mk (blk_below (g := gb131) (o := .cells #[.int .i64 a0_0, .int .i64 a0_1, .int .i64 a0_2, .int .i64 a0_3] 45 (0, 0)) (by (with_reducible repeat first | apply blk_drewN | apply blk_drew | apply blk_alloc); refine blk_far ?_ NB131_134.out _; (with_reducible repeat first | apply blk_drewN | apply blk_drew | apply blk_alloc); refine blk_far ?_ NB131_134.out _; (with_reducible repeat first | apply blk_drewN | apply blk_drew | apply blk_alloc); refine blk_far ?_ NB131_133.out _; (with_reducible repeat first | apply blk_drewN | apply blk_drew | apply blk_alloc); refine blk_far ?_ NB131_133.out _; (with_reducible repeat first | apply blk_drewN | apply blk_drew | apply blk_alloc); exact BK131.out) hb); have n1_ := Aside0.mk (blk_below (g := gb132) (o := .cells #[.int .i64 a1_0, .int .i64 a1_1, .int .i64 a1_2, .int .i64 a1_3] 45 (0, 0)) (by (with_reducible repeat first | apply blk_drewN | apply blk_drew | apply blk_alloc); refine blk_far ?_ NB132_134.out _; (with_reducible repeat first | apply blk_drewN | apply blk_drew | apply blk_alloc); refine blk_far ?_ NB132_134.out _; (with_reducible repeat first | apply blk_drewN | apply blk_drew | apply blk_alloc); refine blk_far ?_ NB132_133.out _; (with_reducible repeat first | apply blk_drewN | apply blk_drew | apply blk_alloc); refine blk_far ?_ NB132_133.out _; (with_reducible repeat first | apply blk_drewN | apply blk_drew | apply blk_alloc); exact BK132.out) hb); have n2_ := Aside0.mk (blk_below (g := gb133) (o := .cells #[.int .i64 a0_0, .int .i64 a0_1] 30 (0, 0)) (by (with_reducible repeat first | apply blk_drewN | apply blk_drew | apply blk_alloc); refine blk_far ?_ NB133_134.out _; (with_reducible repeat first | apply blk_drewN | apply blk_drew | apply blk_alloc); refine blk_far ?_ NB133_134.out _; (with_reducible repeat first | apply blk_drewN | apply blk_drew | apply blk_alloc); refine blk_put (cs := #[.int .i64 a0_0, .int .i64 0]) ?_ 1 _ rfl; (with_reducible repeat first | apply blk_drewN | apply blk_drew | apply blk_alloc); refine blk_put (cs := #[.int .i64 0, .int .i64 0]) ?_ 0 _ rfl; (with_reducible repeat first | apply blk_drewN | apply blk_drew | apply blk_alloc); exact BK133.out) hb); have n3_ := Aside0.mk (blk_below (g := gb134) (o := .cells #[.int .i64 a0_2, .int .i64 a0_3] 30 (0, 0)) (by (with_reducible repeat first | apply blk_drewN | apply blk_drew | apply blk_alloc); refine blk_put (cs := #[.int .i64 a0_2, .int .i64 0]) ?_ 1 _ rfl; (with_reducible repeat first | apply blk_drewN | apply blk_drew | apply blk_alloc); refine blk_put (cs := #[.int .i64 0, .int .i64 0]) ?_ 0 _ rfl; (with_reducible repeat first | apply blk_drewN | apply blk_drew | apply blk_alloc); refine blk_far ?_ NB134_133.out _; (with_reducible repeat first | apply blk_drewN | apply blk_drew | apply blk_alloc); refine blk_far ?_ NB134_133.out _; (with_reducible repeat first | apply blk_drewN | apply blk_drew | apply blk_alloc); exact BK134.out) hb); have n4_ := Aside0.mk (below_step (by repeat with_reducible first | exact HB.out | apply below_alloc | apply pw_below_drewN | apply below_drew1 | refine below_set ?_ GE131.out | refine below_set ?_ GE132.out | refine below_set ?_ GE133.out | refine below_set ?_ GE134.out) hb); clear BK131 BK132 BK133 BK134 HB; have BK131 := n0_; have BK132 := n1_; have BK133 := n2_; have BK134 := n3_; have HB := n4_; clear n0_ n1_ n2_ n3_ n4_; (try clear hb); (try clear hb2); (try clear hk); (try clear hi)))
 (try simp only [Act.put, List.setIfInBounds_toArray, List.set_cons_zero, List.set_cons_succ])
 go_cut [] (fun wc => ∃ (kq : Nat) (x134000_3 : Int) (x134001_3 : Int), Aside0 (seg_flat.j0 kq a1_0 a1_1 a1_2 a1_3 x134000_3 x134001_3 a0_2 a0_3 = some r) ∧ Aside0 (kq ≤ k) ∧ Aside0 (wc.heap[gb131]? = some (.cells #[.int .i64 a0_0, .int .i64 a0_1, .int .i64 a0_2, .int .i64 a0_3] 45 (0, 0))) ∧ Aside0 (wc.heap[gb132]? = some (.cells #[.int .i64 a1_0, .int .i64 a1_1, .int .i64 a1_2, .int .i64 a1_3] 45 (0, 0))) ∧ Aside0 (wc.heap[gb133]? = some (.cells #[.int .i64 x134000_3, .int .i64 x134001_3] 30 (0, 0))) ∧ Aside0 (wc.heap[gb134]? = some (.cells #[.int .i64 a0_2, .int .i64 a0_3] 30 (0, 0))) ∧ Aside0 (Below w.heap.size w wc))
 case first =>
  have H := HC4.out; clear HC4
  by_cases c23 : t135 = true
  ·subst c23; have H1 : (seg_flat.j0 k a1_0 a1_1 a1_2 a1_3 a1_0 a1_1 a0_2 a0_3) = some r := by rw [if_pos rfl] at H; exact H
   clear H; have H := H1; clear H1; have H' := Aside0.mk H; clear H; have hnb24 := NB132_131.out; have hnc24 := NB131_132.out; have hnb25 := NB132_133.out; have hnc25 := NB133_132.out; have hnb26 := NB132_134.out; have hnc26 := NB134_132.out; have hcz27_0 : w22.cell? ⟨gb132, 0, none⟩ = some (.int .i64 a1_0) := (blk_cell BK132.out 0).trans rfl; have hcz27_1 : w22.cell? ⟨gb132, 1, none⟩ = some (.int .i64 a1_1) := (blk_cell BK132.out 1).trans rfl; have hcz27_2 : w22.cell? ⟨gb132, 2, none⟩ = some (.int .i64 a1_2) := (blk_cell BK132.out 2).trans rfl; have hcz27_3 : w22.cell? ⟨gb132, 3, none⟩ = some (.int .i64 a1_3) := (blk_cell BK132.out 3).trans rfl; have hfz27_0 := blk_frozen BK132.out 0; have hfz27_1 := blk_frozen BK132.out 1; have hfz27_2 := blk_frozen BK132.out 2; have hfz27_3 := blk_frozen BK132.out 3; have hnb28 := NB133_131.out; have hnc28 := NB131_133.out; have hnb29 := NB133_134.out; have hnc29 := NB134_133.out; have hcz30_0 : w22.cell? ⟨gb133, 0, none⟩ = some (.int .i64 a0_0) := (blk_cell BK133.out 0).trans rfl; have hcz30_1 : w22.cell? ⟨gb133, 1, none⟩ = some (.int .i64 a0_1) := (blk_cell BK133.out 1).trans rfl; have hfz30_0 := blk_frozen BK133.out 0; have hfz30_1 := blk_frozen BK133.out 1
   go_wp2
   go_meet
   case rel => exact ⟨_, (a1_0), (a1_1), H', ⟨by first | omega | exact Nat.le_refl _⟩, ⟨by (with_reducible repeat first | apply blk_drewN | apply blk_drew | apply blk_alloc); refine blk_far ?_ NB131_133.out _; (with_reducible repeat first | apply blk_drewN | apply blk_drew | apply blk_alloc); refine blk_far ?_ NB131_133.out _; (with_reducible repeat first | apply blk_drewN | apply blk_drew | apply blk_alloc); exact BK131.out⟩, ⟨by (with_reducible repeat first | apply blk_drewN | apply blk_drew | apply blk_alloc); refine blk_far ?_ NB132_133.out _; (with_reducible repeat first | apply blk_drewN | apply blk_drew | apply blk_alloc); refine blk_far ?_ NB132_133.out _; (with_reducible repeat first | apply blk_drewN | apply blk_drew | apply blk_alloc); exact BK132.out⟩, ⟨by (with_reducible repeat first | apply blk_drewN | apply blk_drew | apply blk_alloc); refine blk_put (cs := #[.int .i64 a1_0, .int .i64 a0_1]) ?_ 1 _ rfl; (with_reducible repeat first | apply blk_drewN | apply blk_drew | apply blk_alloc); refine blk_put (cs := #[.int .i64 a0_0, .int .i64 a0_1]) ?_ 0 _ rfl; (with_reducible repeat first | apply blk_drewN | apply blk_drew | apply blk_alloc); exact BK133.out⟩, ⟨by (with_reducible repeat first | apply blk_drewN | apply blk_drew | apply blk_alloc); refine blk_far ?_ NB134_133.out _; (with_reducible repeat first | apply blk_drewN | apply blk_drew | apply blk_alloc); refine blk_far ?_ NB134_133.out _; (with_reducible repeat first | apply blk_drewN | apply blk_drew | apply blk_alloc); exact BK134.out⟩, ⟨by repeat with_reducible first | exact HB.out | apply below_alloc | apply pw_below_drewN | apply below_drew1 | refine below_set ?_ GE131.out | refine below_set ?_ GE132.out | refine below_set ?_ GE133.out | refine below_set ?_ GE134.out⟩⟩
  ·replace c23 := Bool.eq_false_iff.mpr c23; subst c23; have H1 : (seg_flat.j0 k a1_0 a1_1 a1_2 a1_3 a0_0 a0_1 a0_2 a0_3) = some r := by rw [if_neg (show ¬ (false = true) by decide)] at H; exact H
   clear H; have H := H1; clear H1; have H' := Aside0.mk H; clear H
   go_wp2
   go_meet
   case rel => exact ⟨_, (a0_0), (a0_1), H', ⟨by first | omega | exact Nat.le_refl _⟩, ⟨by (with_reducible repeat first | apply blk_drewN | apply blk_drew | apply blk_alloc); exact BK131.out⟩, ⟨by (with_reducible repeat first | apply blk_drewN | apply blk_drew | apply blk_alloc); exact BK132.out⟩, ⟨by (with_reducible repeat first | apply blk_drewN | apply blk_drew | apply blk_alloc); exact BK133.out⟩, ⟨by (with_reducible repeat first | apply blk_drewN | apply blk_drew | apply blk_alloc); exact BK134.out⟩, ⟨by repeat with_reducible first | exact HB.out | apply below_alloc | apply pw_below_drewN | apply below_drew1 | refine below_set ?_ GE131.out | refine below_set ?_ GE132.out | refine below_set ?_ GE133.out | refine below_set ?_ GE134.out⟩⟩
 case rest =>
  clear HC4
  try clear c1
  try clear c2
  try clear p2
  try clear c4
  try clear c5
  try clear c15
  try clear c16
  try clear c17
  try clear c19
  try clear c20
  try clear c23
  try clear c24
  try clear c25
  try clear c26
  try clear c28
  try clear c29
  try clear hcz18_0
  try clear hcz18_1
  try clear hcz21_0
  try clear hcz21_1
  try clear hcz21_2
  try clear hcz21_3
  try clear hcz27_0
  try clear hcz27_1
  try clear hcz27_2
  try clear hcz27_3
  try clear hcz30_0
  try clear hcz30_1
  try clear hfz18_0
  try clear hfz18_1
  try clear hfz21_0
  try clear hfz21_1
  try clear hfz21_2
  try clear hfz21_3
  try clear hfz27_0
  try clear hfz27_1
  try clear hfz27_2
  try clear hfz27_3
  try clear hfz30_0
  try clear hfz30_1
  obtain ⟨kq, x134000_3, x134001_3, HA, HJ3, BK131, BK132, BK133, BK134, HB⟩ := hcut
  cases kq with
  | zero => exact absurd HA.out (by simp [seg_flat.j0])
  | succ kj3 =>
   have H := HA.out; clear HA; simp only [seg_flat.j0] at H; replace H := Option.bind_eq_some_iff.mp H; obtain ⟨t136, A310, H⟩ := H; replace H : (if t136 = true then (seg_flat.j1 kj3 x134000_3 x134001_3 a1_2 a1_3) else (seg_flat.j1 kj3 x134000_3 x134001_3 a0_2 a0_3)) = some r := H; have A31 := Aside0.mk A310; clear A310; have HC32 := Aside0.mk H; clear H; have hnb33 := NB132_131.out; have hnc33 := NB131_132.out; have hnb34 := NB132_133.out; have hnc34 := NB133_132.out; have hnb35 := NB132_134.out; have hnc35 := NB134_132.out; have hcz36_0 : wc.cell? ⟨gb132, 0, none⟩ = some (.int .i64 a1_0) := (blk_cell BK132.out 0).trans rfl; have hcz36_1 : wc.cell? ⟨gb132, 1, none⟩ = some (.int .i64 a1_1) := (blk_cell BK132.out 1).trans rfl; have hcz36_2 : wc.cell? ⟨gb132, 2, none⟩ = some (.int .i64 a1_2) := (blk_cell BK132.out 2).trans rfl; have hcz36_3 : wc.cell? ⟨gb132, 3, none⟩ = some (.int .i64 a1_3) := (blk_cell BK132.out 3).trans rfl; have hfz36_0 := blk_frozen BK132.out 0; have hfz36_1 := blk_frozen BK132.out 1; have hfz36_2 := blk_frozen BK132.out 2; have hfz36_3 := blk_frozen BK132.out 3; have hnb37 := NB134_131.out; have hnc37 := NB131_134.out; have hnb38 := NB134_133.out; have hnc38 := NB133_134.out; have hcz39_0 : wc.cell? ⟨gb134, 0, none⟩ = some (.int .i64 a0_2) := (blk_cell BK134.out 0).trans rfl; have hcz39_1 : wc.cell? ⟨gb134, 1, none⟩ = some (.int .i64 a0_3) := (blk_cell BK134.out 1).trans rfl; have hfz39_0 := blk_frozen BK134.out 0; have hfz39_1 := blk_frozen BK134.out 1
   go_upto_if 20 with (first | ((with_reducible refine gate_callee (f := 44) rfl ?_); refine goesL_ (some 20) rfl rfl Try.func44 (by kernel_rfl) rfl #[.agg #[.int .i64 a1_2, .int .i64 a1_3], .agg #[.int .i64 a0_2, .int .i64 a0_3]] rfl (by (try simp only [List.map_toArray, List.map_cons, List.map_nil]); first | done | rfl | (simp only [List.length_drop, List.length_take]; rfl)) ?_; (with_reducible refine (grid_Less.calls a1_2 a1_3 a0_2 a0_3 t136 _ A31.out).mono ?_); rintro e w40 ⟨rfl, hb⟩; refine ⟨_, rfl, ?_⟩; have n0_ := Aside0.mk (blk_below (by (with_reducible repeat first | apply blk_drewN | apply blk_drew | apply blk_alloc); exact BK131.out) hb); have n1_ := Aside0.mk (blk_below (by (with_reducible repeat first | apply blk_drewN | apply blk_drew | apply blk_alloc); exact BK132.out) hb); have n2_ := Aside0.mk (blk_below (by (with_reducible repeat first | apply blk_drewN | apply blk_drew | apply blk_alloc); exact BK133.out) hb); have n3_ := Aside0.mk (blk_below (by (with_reducible repeat first | apply blk_drewN | apply blk_drew | apply blk_alloc); exact BK134.out) hb); have n4_ := Aside0.mk (below_step (by repeat with_reducible first | exact HB.out | apply below_alloc | apply pw_below_drewN | apply below_drew1 | refine below_set ?_ GE131.out | refine below_set ?_ GE132.out | refine below_set ?_ GE133.out | refine below_set ?_ GE134.out) hb); clear BK131 BK132 BK133 BK134 HB; have BK131 := n0_; have BK132 := n1_; have BK133 := n2_; have BK134 := n3_; have HB := n4_; clear n0_ n1_ n2_ n3_ n4_; (try clear hb); (try clear hb2); (try clear hk); (try clear hi)))
   (try simp only [Act.put, List.setIfInBounds_toArray, List.set_cons_zero, List.set_cons_succ])
   go_cut [] (fun wc => ∃ (kq : Nat) (x135000_31 : Int) (x135001_31 : Int), Aside0 (seg_flat.j1 kq x134000_3 x134001_3 x135000_31 x135001_31 = some r) ∧ Aside0 (kq ≤ kj3) ∧ Aside0 (wc.heap[gb131]? = some (.cells #[.int .i64 a0_0, .int .i64 a0_1, .int .i64 a0_2, .int .i64 a0_3] 45 (0, 0))) ∧ Aside0 (wc.heap[gb132]? = some (.cells #[.int .i64 a1_0, .int .i64 a1_1, .int .i64 a1_2, .int .i64 a1_3] 45 (0, 0))) ∧ Aside0 (wc.heap[gb133]? = some (.cells #[.int .i64 x134000_3, .int .i64 x134001_3] 30 (0, 0))) ∧ Aside0 (wc.heap[gb134]? = some (.cells #[.int .i64 x135000_31, .int .i64 x135001_31] 30 (0, 0))) ∧ Aside0 (Below w.heap.size w wc))
   case first =>
    have H := HC32.out; clear HC32
    by_cases c41 : t136 = true
    ·subst c41; have H1 : (seg_flat.j1 kj3 x134000_3 x134001_3 a1_2 a1_3) = some r := by rw [if_pos rfl] at H; exact H
     clear H; have H := H1; clear H1; have H' := Aside0.mk H; clear H; have hnb42 := NB132_131.out; have hnc42 := NB131_132.out; have hnb43 := NB132_133.out; have hnc43 := NB133_132.out; have hnb44 := NB132_134.out; have hnc44 := NB134_132.out; have hcz45_0 : w40.cell? ⟨gb132, 0, none⟩ = some (.int .i64 a1_0) := (blk_cell BK132.out 0).trans rfl; have hcz45_1 : w40.cell? ⟨gb132, 1, none⟩ = some (.int .i64 a1_1) := (blk_cell BK132.out 1).trans rfl; have hcz45_2 : w40.cell? ⟨gb132, 2, none⟩ = some (.int .i64 a1_2) := (blk_cell BK132.out 2).trans rfl; have hcz45_3 : w40.cell? ⟨gb132, 3, none⟩ = some (.int .i64 a1_3) := (blk_cell BK132.out 3).trans rfl; have hfz45_0 := blk_frozen BK132.out 0; have hfz45_1 := blk_frozen BK132.out 1; have hfz45_2 := blk_frozen BK132.out 2; have hfz45_3 := blk_frozen BK132.out 3; have hnb46 := NB134_131.out; have hnc46 := NB131_134.out; have hnb47 := NB134_133.out; have hnc47 := NB133_134.out; have hcz48_0 : w40.cell? ⟨gb134, 0, none⟩ = some (.int .i64 a0_2) := (blk_cell BK134.out 0).trans rfl; have hcz48_1 : w40.cell? ⟨gb134, 1, none⟩ = some (.int .i64 a0_3) := (blk_cell BK134.out 1).trans rfl; have hfz48_0 := blk_frozen BK134.out 0; have hfz48_1 := blk_frozen BK134.out 1
     go_wp2
     go_meet
     case rel => exact ⟨_, (a1_2), (a1_3), H', ⟨by have := HJ3.out; first | omega | exact Nat.le_refl _⟩, ⟨by (with_reducible repeat first | apply blk_drewN | apply blk_drew | apply blk_alloc); refine blk_far ?_ NB131_134.out _; (with_reducible repeat first | apply blk_drewN | apply blk_drew | apply blk_alloc); refine blk_far ?_ NB131_134.out _; (with_reducible repeat first | apply blk_drewN | apply blk_drew | apply blk_alloc); exact BK131.out⟩, ⟨by (with_reducible repeat first | apply blk_drewN | apply blk_drew | apply blk_alloc); refine blk_far ?_ NB132_134.out _; (with_reducible repeat first | apply blk_drewN | apply blk_drew | apply blk_alloc); refine blk_far ?_ NB132_134.out _; (with_reducible repeat first | apply blk_drewN | apply blk_drew | apply blk_alloc); exact BK132.out⟩, ⟨by (with_reducible repeat first | apply blk_drewN | apply blk_drew | apply blk_alloc); refine blk_far ?_ NB133_134.out _; (with_reducible repeat first | apply blk_drewN | apply blk_drew | apply blk_alloc); refine blk_far ?_ NB133_134.out _; (with_reducible repeat first | apply blk_drewN | apply blk_drew | apply blk_alloc); exact BK133.out⟩, ⟨by (with_reducible repeat first | apply blk_drewN | apply blk_drew | apply blk_alloc); refine blk_put (cs := #[.int .i64 a1_2, .int .i64 a0_3]) ?_ 1 _ rfl; (with_reducible repeat first | apply blk_drewN | apply blk_drew | apply blk_alloc); refine blk_put (cs := #[.int .i64 a0_2, .int .i64 a0_3]) ?_ 0 _ rfl; (with_reducible repeat first | apply blk_drewN | apply blk_drew | apply blk_alloc); exact BK134.out⟩, ⟨by repeat with_reducible first | exact HB.out | apply below_alloc | apply pw_below_drewN | apply below_drew1 | refine below_set ?_ GE131.out | refine below_set ?_ GE132.out | refine below_set ?_ GE133.out | refine below_set ?_ GE134.out⟩⟩
    ·replace c41 := Bool.eq_false_iff.mpr c41; subst c41; have H1 : (seg_flat.j1 kj3 x134000_3 x134001_3 a0_2 a0_3) = some r := by rw [if_neg (show ¬ (false = true) by decide)] at H; exact H
     clear H; have H := H1; clear H1; have H' := Aside0.mk H; clear H
     go_wp2
     go_meet
     case rel => exact ⟨_, (a0_2), (a0_3), H', ⟨by have := HJ3.out; first | omega | exact Nat.le_refl _⟩, ⟨by (with_reducible repeat first | apply blk_drewN | apply blk_drew | apply blk_alloc); exact BK131.out⟩, ⟨by (with_reducible repeat first | apply blk_drewN | apply blk_drew | apply blk_alloc); exact BK132.out⟩, ⟨by (with_reducible repeat first | apply blk_drewN | apply blk_drew | apply blk_alloc); exact BK133.out⟩, ⟨by (with_reducible repeat first | apply blk_drewN | apply blk_drew | apply blk_alloc); exact BK134.out⟩, ⟨by repeat with_reducible first | exact HB.out | apply below_alloc | apply pw_below_drewN | apply below_drew1 | refine below_set ?_ GE131.out | refine below_set ?_ GE132.out | refine below_set ?_ GE133.out | refine below_set ?_ GE134.out⟩⟩
   case rest =>
    clear HC32
    try clear c1
    try clear c2
    try clear p2
    try clear c3
    try clear c4
    try clear c5
    try clear c15
    try clear c16
    try clear c17
    try clear c19
    try clear c20
    try clear c23
    try clear c24
    try clear c25
    try clear c26
    try clear c28
    try clear c29
    try clear c33
    try clear c34
    try clear c35
    try clear c37
    try clear c38
    try clear c41
    try clear c42
    try clear c43
    try clear c44
    try clear c46
    try clear c47
    try clear hcz18_0
    try clear hcz18_1
    try clear hcz21_0
    try clear hcz21_1
    try clear hcz21_2
    try clear hcz21_3
    try clear hcz27_0
    try clear hcz27_1
    try clear hcz27_2
    try clear hcz27_3
    try clear hcz30_0
    try clear hcz30_1
    try clear hcz36_0
    try clear hcz36_1
    try clear hcz36_2
    try clear hcz36_3
    try clear hcz39_0
    try clear hcz39_1
    try clear hcz45_0
    try clear hcz45_1
    try clear hcz45_2
    try clear hcz45_3
    try clear hcz48_0
    try clear hcz48_1
    try clear hfz18_0
    try clear hfz18_1
    try clear hfz21_0
    try clear hfz21_1
    try clear hfz21_2
    try clear hfz21_3
    try clear hfz27_0
    try clear hfz27_1
    try clear hfz27_2
    try clear hfz27_3
    try clear hfz30_0
    try clear hfz30_1
    try clear hfz36_0
    try clear hfz36_1
    try clear hfz36_2
    try clear hfz36_3
    try clear hfz39_0
    try clear hfz39_1
    try clear hfz45_0
    try clear hfz45_1
    try clear hfz45_2
    try clear hfz45_3
    try clear hfz48_0
    try clear hfz48_1
    try clear p2
    obtain ⟨kq, x135000_31, x135001_31, HA, HJ31, BK131, BK132, BK133, BK134, HB⟩ := hcut
    cases kq with
    | zero => exact absurd HA.out (by simp [seg_flat.j1])
    | succ kj31 =>
     have H := HA.out; clear HA; simp only [seg_flat.j1] at H; replace H := Option.bind_eq_some_iff.mp H; obtain ⟨t137, A490, H⟩ := H; replace H : (if t137 = true then (some 3) else (if (x134000_3 == x135000_31 && (x134001_3 == x135001_31)) = true then (some 1) else (some 0))) = some r := H; have A49 := Aside0.mk A490; clear A490
     by_cases c50 : t137 = true
     ·subst c50; have H1 : (some 3) = some r := by rw [if_pos rfl] at H; exact H
      clear H; have H := H1; clear H1; obtain rfl := Option.some.inj H; have hnb51 := NB133_131.out; have hnc51 := NB131_133.out; have hnb52 := NB133_132.out; have hnc52 := NB132_133.out; have hnb53 := NB133_134.out; have hnc53 := NB134_133.out; have hcz54_0 : wc.cell? ⟨gb133, 0, none⟩ = some (.int .i64 x134000_3) := (blk_cell BK133.out 0).trans rfl; have hcz54_1 : wc.cell? ⟨gb133, 1, none⟩ = some (.int .i64 x134001_3) := (blk_cell BK133.out 1).trans rfl; have hfz54_0 := blk_frozen BK133.out 0; have hfz54_1 := blk_frozen BK133.out 1; have hnb55 := NB134_131.out; have hnc55 := NB131_134.out; have hnb56 := NB134_132.out; have hnc56 := NB132_134.out; have hcz57_0 : wc.cell? ⟨gb134, 0, none⟩ = some (.int .i64 x135000_31) := (blk_cell BK134.out 0).trans rfl; have hcz57_1 : wc.cell? ⟨gb134, 1, none⟩ = some (.int .i64 x135001_31) := (blk_cell BK134.out 1).trans rfl; have hfz57_0 := blk_frozen BK134.out 0; have hfz57_1 := blk_frozen BK134.out 1
      go_wp2_with (first | ((with_reducible refine gate_callee (f := 44) rfl ?_); refine goesL_ (some 26) rfl rfl Try.func44 (by kernel_rfl) rfl #[.agg #[.int .i64 x134000_3, .int .i64 x134001_3], .agg #[.int .i64 x135000_31, .int .i64 x135001_31]] rfl (by (try simp only [List.map_toArray, List.map_cons, List.map_nil]); first | done | rfl | (simp only [List.length_drop, List.length_take]; rfl)) ?_; (with_reducible refine (grid_Less.calls x134000_3 x134001_3 x135000_31 x135001_31 true _ A49.out).mono ?_); rintro e w58 ⟨rfl, hb⟩; refine ⟨_, rfl, ?_⟩; have n0_ := Aside0.mk (blk_below (by (with_reducible repeat first | apply blk_drewN | apply blk_drew | apply blk_alloc); exact BK131.out) hb); have n1_ := Aside0.mk (blk_below (by (with_reducible repeat first | apply blk_drewN | apply blk_drew | apply blk_alloc); exact BK132.out) hb); have n2_ := Aside0.mk (blk_below (by (with_reducible repeat first | apply blk_drewN | apply blk_drew | apply blk_alloc); exact BK133.out) hb); have n3_ := Aside0.mk (blk_below (by (with_reducible repeat first | apply blk_drewN | apply blk_drew | apply blk_alloc); exact BK134.out) hb); have n4_ := Aside0.mk (below_step (by repeat with_reducible first | exact HB.out | apply below_alloc | apply pw_below_drewN | apply below_drew1 | refine below_set ?_ GE131.out | refine below_set ?_ GE132.out | refine below_set ?_ GE133.out | refine below_set ?_ GE134.out) hb); clear BK131 BK132 BK133 BK134 HB; have BK131 := n0_; have BK132 := n1_; have BK133 := n2_; have BK134 := n3_; have HB := n4_; clear n0_ n1_ n2_ n3_ n4_; (try clear hb); (try clear hb2); (try clear hk); (try clear hi)))
      go_ret
      exact ⟨by first | rfl | (simp [errW_none, errW_some] <;> rfl) | (simp [*, errW_none, errW_some] <;> rfl), by repeat with_reducible first | exact HB.out | apply below_alloc | apply pw_below_drewN | apply below_drew1 | refine below_set ?_ GE131.out | refine below_set ?_ GE132.out | refine below_set ?_ GE133.out | refine below_set ?_ GE134.out⟩
     ·replace c50 := Bool.eq_false_iff.mpr c50; subst c50; have H1 : (if (x134000_3 == x135000_31 && (x134001_3 == x135001_31)) = true then (some 1) else (some 0)) = some r := by rw [if_neg (show ¬ (false = true) by decide)] at H; exact H
      clear H; have H := H1; clear H1
      by_cases c59 : (x134000_3 == x135000_31 && (x134001_3 == x135001_31)) = true
      ·rw [if_pos c59] at H
       have c59b0 : (x134000_3 == x135000_31 && (x134001_3 == x135001_31)) = true := c59; (try (have c59b1 : decide (x134000_3 = x135000_31 && (x134001_3 == x135001_31)) = true := by simpa using c59)); (try (have c59b2 : (x134000_3 == x135000_31 && (x134001_3 == x135001_31)) = true := by simpa using c59)); clear c59; obtain rfl := Option.some.inj H; have hnb60 := NB133_131.out; have hnc60 := NB131_133.out; have hnb61 := NB133_132.out; have hnc61 := NB132_133.out; have hnb62 := NB133_134.out; have hnc62 := NB134_133.out; have hcz63_0 : wc.cell? ⟨gb133, 0, none⟩ = some (.int .i64 x134000_3) := (blk_cell BK133.out 0).trans rfl; have hcz63_1 : wc.cell? ⟨gb133, 1, none⟩ = some (.int .i64 x134001_3) := (blk_cell BK133.out 1).trans rfl; have hfz63_0 := blk_frozen BK133.out 0; have hfz63_1 := blk_frozen BK133.out 1; have hnb64 := NB134_131.out; have hnc64 := NB131_134.out; have hnb65 := NB134_132.out; have hnc65 := NB132_134.out; have hcz66_0 : wc.cell? ⟨gb134, 0, none⟩ = some (.int .i64 x135000_31) := (blk_cell BK134.out 0).trans rfl; have hcz66_1 : wc.cell? ⟨gb134, 1, none⟩ = some (.int .i64 x135001_31) := (blk_cell BK134.out 1).trans rfl; have hfz66_0 := blk_frozen BK134.out 0; have hfz66_1 := blk_frozen BK134.out 1
       go_wp2_with (first | ((with_reducible refine gate_callee (f := 44) rfl ?_); refine goesL_ (some 26) rfl rfl Try.func44 (by kernel_rfl) rfl #[.agg #[.int .i64 x134000_3, .int .i64 x134001_3], .agg #[.int .i64 x135000_31, .int .i64 x135001_31]] rfl (by (try simp only [List.map_toArray, List.map_cons, List.map_nil]); first | done | rfl | (simp only [List.length_drop, List.length_take]; rfl)) ?_; (with_reducible refine (grid_Less.calls x134000_3 x134001_3 x135000_31 x135001_31 false _ A49.out).mono ?_); rintro e w67 ⟨rfl, hb⟩; refine ⟨_, rfl, ?_⟩; have n0_ := Aside0.mk (blk_below (by (with_reducible repeat first | apply blk_drewN | apply blk_drew | apply blk_alloc); exact BK131.out) hb); have n1_ := Aside0.mk (blk_below (by (with_reducible repeat first | apply blk_drewN | apply blk_drew | apply blk_alloc); exact BK132.out) hb); have n2_ := Aside0.mk (blk_below (by (with_reducible repeat first | apply blk_drewN | apply blk_drew | apply blk_alloc); exact BK133.out) hb); have n3_ := Aside0.mk (blk_below (by (with_reducible repeat first | apply blk_drewN | apply blk_drew | apply blk_alloc); exact BK134.out) hb); have n4_ := Aside0.mk (below_step (by repeat with_reducible first | exact HB.out | apply below_alloc | apply pw_below_drewN | apply below_drew1 | refine below_set ?_ GE131.out | refine below_set ?_ GE132.out | refine below_set ?_ GE133.out | refine below_set ?_ GE134.out) hb); clear BK131 BK132 BK133 BK134 HB; have BK131 := n0_; have BK132 := n1_; have BK133 := n2_; have BK134 := n3_; have HB := n4_; clear n0_ n1_ n2_ n3_ n4_; (try clear hb); (try clear hb2); (try clear hk); (try clear hi); have hcz68_0 : w67.cell? ⟨gb133, 0, none⟩ = some (.int .i64 x134000_3) := (blk_cell BK133.out 0).trans rfl; have hcz68_1 : w67.cell? ⟨gb133, 1, none⟩ = some (.int .i64 x134001_3) := (blk_cell BK133.out 1).trans rfl; have hfz68_0 := blk_frozen BK133.out 0; have hfz68_1 := blk_frozen BK133.out 1; have hcz69_0 : w67.cell? ⟨gb134, 0, none⟩ = some (.int .i64 x135000_31) := (blk_cell BK134.out 0).trans rfl; have hcz69_1 : w67.cell? ⟨gb134, 1, none⟩ = some (.int .i64 x135001_31) := (blk_cell BK134.out 1).trans rfl; have hfz69_0 := blk_frozen BK134.out 0; have hfz69_1 := blk_frozen BK134.out 1))
       go_ret
       exact ⟨by first | rfl | (simp [errW_none, errW_some] <;> rfl) | (simp [*, errW_none, errW_some] <;> rfl), by repeat with_reducible first | exact HB.out | apply below_alloc | apply pw_below_drewN | apply below_drew1 | refine below_set ?_ GE131.out | refine below_set ?_ GE132.out | refine below_set ?_ GE133.out | refine below_set ?_ GE134.out⟩
      ·rw [if_neg c59] at H
       have c59b0 : (x134000_3 == x135000_31 && (x134001_3 == x135001_31)) = false := by simpa using c59
       (try (have c59b1 : decide (x134000_3 = x135000_31 && (x134001_3 == x135001_31)) = false := by simpa using c59)); (try (have c59b2 : (x134000_3 == x135000_31 && (x134001_3 == x135001_31)) = false := by simpa using c59)); (try (have c59b3 : ¬ (x134000_3 = x135000_31 && (x134001_3 == x135001_31)) := by simpa using c59)); clear c59; obtain rfl := Option.some.inj H; have hnb70 := NB133_131.out; have hnc70 := NB131_133.out; have hnb71 := NB133_132.out; have hnc71 := NB132_133.out; have hnb72 := NB133_134.out; have hnc72 := NB134_133.out; have hcz73_0 : wc.cell? ⟨gb133, 0, none⟩ = some (.int .i64 x134000_3) := (blk_cell BK133.out 0).trans rfl; have hcz73_1 : wc.cell? ⟨gb133, 1, none⟩ = some (.int .i64 x134001_3) := (blk_cell BK133.out 1).trans rfl; have hfz73_0 := blk_frozen BK133.out 0; have hfz73_1 := blk_frozen BK133.out 1; have hnb74 := NB134_131.out; have hnc74 := NB131_134.out; have hnb75 := NB134_132.out; have hnc75 := NB132_134.out; have hcz76_0 : wc.cell? ⟨gb134, 0, none⟩ = some (.int .i64 x135000_31) := (blk_cell BK134.out 0).trans rfl; have hcz76_1 : wc.cell? ⟨gb134, 1, none⟩ = some (.int .i64 x135001_31) := (blk_cell BK134.out 1).trans rfl; have hfz76_0 := blk_frozen BK134.out 0; have hfz76_1 := blk_frozen BK134.out 1
       go_wp2_with (first | ((with_reducible refine gate_callee (f := 44) rfl ?_); refine goesL_ (some 26) rfl rfl Try.func44 (by kernel_rfl) rfl #[.agg #[.int .i64 x134000_3, .int .i64 x134001_3], .agg #[.int .i64 x135000_31, .int .i64 x135001_31]] rfl (by (try simp only [List.map_toArray, List.map_cons, List.map_nil]); first | done | rfl | (simp only [List.length_drop, List.length_take]; rfl)) ?_; (with_reducible refine (grid_Less.calls x134000_3 x134001_3 x135000_31 x135001_31 false _ A49.out).mono ?_); rintro e w77 ⟨rfl, hb⟩; refine ⟨_, rfl, ?_⟩; have n0_ := Aside0.mk (blk_below (by (with_reducible repeat first | apply blk_drewN | apply blk_drew | apply blk_alloc); exact BK131.out) hb); have n1_ := Aside0.mk (blk_below (by (with_reducible repeat first | apply blk_drewN | apply blk_drew | apply blk_alloc); exact BK132.out) hb); have n2_ := Aside0.mk (blk_below (by (with_reducible repeat first | apply blk_drewN | apply blk_drew | apply blk_alloc); exact BK133.out) hb); have n3_ := Aside0.mk (blk_below (by (with_reducible repeat first | apply blk_drewN | apply blk_drew | apply blk_alloc); exact BK134.out) hb); have n4_ := Aside0.mk (below_step (by repeat with_reducible first | exact HB.out | apply below_alloc | apply pw_below_drewN | apply below_drew1 | refine below_set ?_ GE131.out | refine below_set ?_ GE132.out | refine below_set ?_ GE133.out | refine below_set ?_ GE134.out) hb); clear BK131 BK132 BK133 BK134 HB; have BK131 := n0_; have BK132 := n1_; have BK133 := n2_; have BK134 := n3_; have HB := n4_; clear n0_ n1_ n2_ n3_ n4_; (try clear hb); (try clear hb2); (try clear hk); (try clear hi); have hcz78_0 : w77.cell? ⟨gb133, 0, none⟩ = some (.int .i64 x134000_3) := (blk_cell BK133.out 0).trans rfl; have hcz78_1 : w77.cell? ⟨gb133, 1, none⟩ = some (.int .i64 x134001_3) := (blk_cell BK133.out 1).trans rfl; have hfz78_0 := blk_frozen BK133.out 0; have hfz78_1 := blk_frozen BK133.out 1; have hcz79_0 : w77.cell? ⟨gb134, 0, none⟩ = some (.int .i64 x135000_31) := (blk_cell BK134.out 0).trans rfl; have hcz79_1 : w77.cell? ⟨gb134, 1, none⟩ = some (.int .i64 x135001_31) := (blk_cell BK134.out 1).trans rfl; have hfz79_0 := blk_frozen BK134.out 0; have hfz79_1 := blk_frozen BK134.out 1))
       go_ret
       exact ⟨by first | rfl | (simp [errW_none, errW_some] <;> rfl) | (simp [*, errW_none, errW_some] <;> rfl), by repeat with_reducible first | exact HB.out | apply below_alloc | apply pw_below_drewN | apply below_drew1 | refine below_set ?_ GE131.out | refine below_set ?_ GE132.out | refine below_set ?_ GE133.out | refine below_set ?_ GE134.out⟩

end Go.Proofs.Ytggafoldccikdaa.PAll
