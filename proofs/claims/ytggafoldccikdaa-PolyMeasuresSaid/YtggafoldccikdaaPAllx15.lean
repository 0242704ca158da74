import Derived.Test.YtggafoldccikdaaPAllx0
import Derived.Test.YtggafoldccikdaaPAllx1
import Derived.Test.YtggafoldccikdaaPAllx12
import Derived.Test.YtggafoldccikdaaPAllx14
namespace Go.Proofs.Ytggafoldccikdaa.PAll
open Go.RowKit Go.Proofs.YtggafoldccikdaaW.PrintWords Go.Proofs.YtggafoldccikdaaW.PrintLast Go.Proofs.YtggafoldccikdaaW.PrintMore
attribute [local go_sem] max2_int min2_int max_two min_two max_three min_three max_four min_four
set_option linter.unusedVariables false
set_option linter.unusedSimpArgs false
attribute [local irreducible] Calls

attribute [local go_sem high] eqA30
/-! ### seg_Relate: function 32 -/
mutual
def seg_Relate.j0 : Nat → Bool → Int → Int → Int → Int → Int → Int → Int → Int → Option (Int)
 | 0, _, _, _, _, _, _, _, _, _ => none
 | k + 1, x33, x139000, x139001, x139002, x139003, x140000, x140001, x140002, x140003 => if x33 = true then (some 0) else ((seg_Of.f x139000 x139001 x139002 x139003).bind fun bt144 => ((seg_Of.f x140000 x140001 x140002 x140003).bind fun bt148 => ((seg_Turn.f k bt144.1 bt144.2.1 bt144.2.2.1 bt144.2.2.2 bt148.1 bt148.2.1).bind fun t152 => ((seg_sign.f t152).bind fun t153 => ((seg_Turn.f k bt144.1 bt144.2.1 bt144.2.2.1 bt144.2.2.2 bt148.2.2.1 bt148.2.2.2).bind fun t154 => ((seg_sign.f t154).bind fun t155 => ((seg_Turn.f k bt148.1 bt148.2.1 bt148.2.2.1 bt148.2.2.2 bt144.1 bt144.2.1).bind fun t156 => ((seg_sign.f t156).bind fun t157 => ((seg_Turn.f k bt148.1 bt148.2.1 bt148.2.2.1 bt148.2.2.2 bt144.2.2.1 bt144.2.2.2).bind fun t158 => ((seg_sign.f t158).bind fun t159 => (if t153 = 0 then (seg_Relate.j1 k t153 t155 t157 t159 (t155 == 0) bt144.1 bt144.2.1 bt144.2.2.1 bt144.2.2.2 bt148.1 bt148.2.1 bt148.2.2.1 bt148.2.2.2) else (seg_Relate.j1 k t153 t155 t157 t159 false bt144.1 bt144.2.1 bt144.2.2.1 bt144.2.2.2 bt148.1 bt148.2.1 bt148.2.2.1 bt148.2.2.2))))))))))))
def seg_Relate.j1 : Nat → Int → Int → Int → Int → Bool → Int → Int → Int → Int → Int → Int → Int → Int → Option (Int)
 | 0, _, _, _, _, _, _, _, _, _, _, _, _, _ => none
 | k + 1, x5, x6, x7, x8, x76, x139000, x139001, x139002, x139003, x140000, x140001, x140002, x140003 => if x76 = true then ((seg_flat.f k x139000 x139001 x139002 x139003 x140000 x140001 x140002 x140003).bind fun t160 => (some t160)) else (if (wrap64 (x5 * x6)) < 0 then (seg_Relate.j2 k (decide ((wrap64 (x7 * x8)) < 0)) x139000 x139001 x139002 x139003 x140000 x140001 x140002 x140003) else (seg_Relate.j2 k false x139000 x139001 x139002 x139003 x140000 x140001 x140002 x140003))
def seg_Relate.j2 : Nat → Bool → Int → Int → Int → Int → Int → Int → Int → Int → Option (Int)
 | 0, _, _, _, _, _, _, _, _, _ => none
 | k + 1, x83, x139000, x139001, x139002, x139003, x140000, x140001, x140002, x140003 => if x83 = true then (some 2) else ((seg_On.f k x140000 x140001 x139000 x139001 x139002 x139003).bind fun t161 => (if t161 = true then (some 1) else ((seg_On.f k x140002 x140003 x139000 x139001 x139002 x139003).bind fun t162 => (if t162 = true then (some 1) else ((seg_On.f k x139000 x139001 x140000 x140001 x140002 x140003).bind fun t163 => (if t163 = true then (some 1) else ((seg_On.f k x139002 x139003 x140000 x140001 x140002 x140003).bind fun t164 => (if t164 = true then (some 1) else (some 0)))))))))
end
def seg_Relate.f (k : Nat) (a0_0 : Int) (a0_1 : Int) (a0_2 : Int) (a0_3 : Int) (a1_0 : Int) (a1_1 : Int) (a1_2 : Int) (a1_3 : Int) : Option (Int) := (seg_valid.f k (([(⟨a0_0, a0_1⟩ : S30), (⟨a0_2, a0_3⟩ : S30), (⟨a1_0, a1_1⟩ : S30), (⟨a1_2, a1_3⟩ : S30)] : List (S30)))).bind fun t143 => (if t143 = true then (if (a0_0 == a0_2 && (a0_1 == a0_3)) = true then (seg_Relate.j0 k true a0_0 a0_1 a0_2 a0_3 a1_0 a1_1 a1_2 a1_3) else (seg_Relate.j0 k (a1_0 == a1_2 && (a1_1 == a1_3)) a0_0 a0_1 a0_2 a0_3 a1_0 a1_1 a1_2 a1_3)) else (seg_Relate.j0 k true a0_0 a0_1 a0_2 a0_3 a1_0 a1_1 a1_2 a1_3))
theorem seg_Relate.mono_l : ∀ k, (∀ y0 y1 y2 y3 y4 y5 y6 y7 y8, LeO (seg_Relate.j0 k y0 y1 y2 y3 y4 y5 y6 y7 y8) (seg_Relate.j0 (k + 1) y0 y1 y2 y3 y4 y5 y6 y7 y8)) ∧ (∀ y0 y1 y2 y3 y4 y5 y6 y7 y8 y9 y10 y11 y12, LeO (seg_Relate.j1 k y0 y1 y2 y3 y4 y5 y6 y7 y8 y9 y10 y11 y12) (seg_Relate.j1 (k + 1) y0 y1 y2 y3 y4 y5 y6 y7 y8 y9 y10 y11 y12)) ∧ (∀ y0 y1 y2 y3 y4 y5 y6 y7 y8, LeO (seg_Relate.j2 k y0 y1 y2 y3 y4 y5 y6 y7 y8) (seg_Relate.j2 (k + 1) y0 y1 y2 y3 y4 y5 y6 y7 y8))
 | 0 => ⟨fun _ _ _ _ _ _ _ _ _ r h => by simp [seg_Relate.j0] at h, fun _ _ _ _ _ _ _ _ _ _ _ _ _ r h => by simp [seg_Relate.j1] at h, fun _ _ _ _ _ _ _ _ _ r h => by simp [seg_Relate.j2] at h⟩
 | k + 1 => by
  obtain ⟨ih0, ih1, ih2⟩ := seg_Relate.mono_l k
  refine ⟨?_, ?_, ?_⟩
  ·intro y0 y1 y2 y3 y4 y5 y6 y7 y8
   unfold seg_Relate.j0
   repeat' first
   | (with_reducible exact ih0 _ _ _ _ _ _ _ _ _)
   | (with_reducible exact ih1 _ _ _ _ _ _ _ _ _ _ _ _ _)
   | (with_reducible exact ih2 _ _ _ _ _ _ _ _ _)
   | (with_reducible exact seg_On.mono _ _ _ _ _ _ _)
   | (with_reducible exact seg_Turn.mono _ _ _ _ _ _ _)
   | (with_reducible exact seg_flat.mono _ _ _ _ _ _ _ _ _)
   | (with_reducible exact seg_valid.mono _ _)
   | (with_reducible exact LeO.refl _)
   | (with_reducible exact LeO.none _)
   | (with_reducible refine LeO.ite ?_ ?_)
   | (with_reducible refine LeO.bind ?_ (fun _ => ?_))
   | exact ih0 _ _ _ _ _ _ _ _ _
   | exact ih1 _ _ _ _ _ _ _ _ _ _ _ _ _
   | exact ih2 _ _ _ _ _ _ _ _ _
   | exact seg_On.mono _ _ _ _ _ _ _
   | exact seg_Turn.mono _ _ _ _ _ _ _
   | exact seg_flat.mono _ _ _ _ _ _ _ _ _
   | exact seg_valid.mono _ _
   | exact LeO.none _
   | refine LeO.ite ?_ ?_
   | refine LeO.bind ?_ (fun _ => ?_)
  ·intro y0 y1 y2 y3 y4 y5 y6 y7 y8 y9 y10 y11 y12
   unfold seg_Relate.j1
   repeat' first
   | (with_reducible exact ih0 _ _ _ _ _ _ _ _ _)
   | (with_reducible exact ih1 _ _ _ _ _ _ _ _ _ _ _ _ _)
   | (with_reducible exact ih2 _ _ _ _ _ _ _ _ _)
   | (with_reducible exact seg_On.mono _ _ _ _ _ _ _)
   | (with_reducible exact seg_Turn.mono _ _ _ _ _ _ _)
   | (with_reducible exact seg_flat.mono _ _ _ _ _ _ _ _ _)
   | (with_reducible exact seg_valid.mono _ _)
   | (with_reducible exact LeO.refl _)
   | (with_reducible exact LeO.none _)
   | (with_reducible refine LeO.ite ?_ ?_)
   | (with_reducible refine LeO.bind ?_ (fun _ => ?_))
   | exact ih0 _ _ _ _ _ _ _ _ _
   | exact ih1 _ _ _ _ _ _ _ _ _ _ _ _ _
   | exact ih2 _ _ _ _ _ _ _ _ _
   | exact seg_On.mono _ _ _ _ _ _ _
   | exact seg_Turn.mono _ _ _ _ _ _ _
   | exact seg_flat.mono _ _ _ _ _ _ _ _ _
   | exact seg_valid.mono _ _
   | exact LeO.none _
   | refine LeO.ite ?_ ?_
   | refine LeO.bind ?_ (fun _ => ?_)
  ·intro y0 y1 y2 y3 y4 y5 y6 y7 y8
   unfold seg_Relate.j2
   repeat' first
   | (with_reducible exact ih0 _ _ _ _ _ _ _ _ _)
   | (with_reducible exact ih1 _ _ _ _ _ _ _ _ _ _ _ _ _)
   | (with_reducible exact ih2 _ _ _ _ _ _ _ _ _)
   | (with_reducible exact seg_On.mono _ _ _ _ _ _ _)
   | (with_reducible exact seg_Turn.mono _ _ _ _ _ _ _)
   | (with_reducible exact seg_flat.mono _ _ _ _ _ _ _ _ _)
   | (with_reducible exact seg_valid.mono _ _)
   | (with_reducible exact LeO.refl _)
   | (with_reducible exact LeO.none _)
   | (with_reducible refine LeO.ite ?_ ?_)
   | (with_reducible refine LeO.bind ?_ (fun _ => ?_))
   | exact ih0 _ _ _ _ _ _ _ _ _
   | exact ih1 _ _ _ _ _ _ _ _ _ _ _ _ _
   | exact ih2 _ _ _ _ _ _ _ _ _
   | exact seg_On.mono _ _ _ _ _ _ _
   | exact seg_Turn.mono _ _ _ _ _ _ _
   | exact seg_flat.mono _ _ _ _ _ _ _ _ _
   | exact seg_valid.mono _ _
   | exact LeO.none _
   | refine LeO.ite ?_ ?_
   | refine LeO.bind ?_ (fun _ => ?_)
theorem seg_Relate.mono : ∀ a0 a1 a2 a3 a4 a5 a6 a7 k, LeO (seg_Relate.f k a0 a1 a2 a3 a4 a5 a6 a7) (seg_Relate.f (k + 1) a0 a1 a2 a3 a4 a5 a6 a7) := by
 intro a0 a1 a2 a3 a4 a5 a6 a7 k
 obtain ⟨ih0, ih1, ih2⟩ := seg_Relate.mono_l k
 unfold seg_Relate.f
 repeat' first
   | (with_reducible exact ih0 _ _ _ _ _ _ _ _ _)
   | (with_reducible exact ih1 _ _ _ _ _ _ _ _ _ _ _ _ _)
   | (with_reducible exact ih2 _ _ _ _ _ _ _ _ _)
   | (with_reducible exact seg_On.mono _ _ _ _ _ _ _)
   | (with_reducible exact seg_Turn.mono _ _ _ _ _ _ _)
   | (with_reducible exact seg_flat.mono _ _ _ _ _ _ _ _ _)
   | (with_reducible exact seg_valid.mono _ _)
   | (with_reducible exact LeO.refl _)
   | (with_reducible exact LeO.none _)
   | (with_reducible refine LeO.ite ?_ ?_)
   | (with_reducible refine LeO.bind ?_ (fun _ => ?_))
   | exact ih0 _ _ _ _ _ _ _ _ _
   | exact ih1 _ _ _ _ _ _ _ _ _ _ _ _ _
   | exact ih2 _ _ _ _ _ _ _ _ _
   | exact seg_On.mono _ _ _ _ _ _ _
   | exact seg_Turn.mono _ _ _ _ _ _ _
   | exact seg_flat.mono _ _ _ _ _ _ _ _ _
   | exact seg_valid.mono _ _
   | exact LeO.none _
   | refine LeO.ite ?_ ?_
   | refine LeO.bind ?_ (fun _ => ?_)
def seg_Relate.T3 : Bool × List (List Nat × List Nat) := (true, [([], []), ([0], [0]), ([], []), ([2], [2]), ([1, 3], [1, 3]), ([], []), ([5], [5]), ([], []), ([7], [7]), ([6, 8, 4], [6, 8]), ([4, 9, 0, 1, 2, 3, 4], [4]), ([9, 10, 0, 1, 2, 3, 4, 5, 6, 7, 8, 9, 10], [9])])
def seg_Relate.B3 : List Nat := [0, 1, 0, 4, 15, 0, 32, 0, 128, 511, 1023, 2047]
theorem seg_Relate.tab3 : rtab .any (opsOf Try.f32 3) = seg_Relate.T3 := by kernel_rfl
theorem seg_Relate.bits3 : waitsOk seg_Relate.T3.2 seg_Relate.B3 = true := by kernel_rfl
def seg_Relate.T4 : Bool × List (List Nat × List Nat) := (true, [([], []), ([0], [0]), ([], []), ([2], [2]), ([], []), ([4], [4]), ([1, 3, 5], [1, 3, 5]), ([6, 6], [6]), ([], []), ([8], [8]), ([], []), ([10], [10]), ([], []), ([12], [12]), ([9, 11, 13, 7], [9, 11, 13]), ([14, 14], [14]), ([7, 15, 0, 1, 2, 3, 4, 5, 6, 7], [7]), ([15, 16, 0, 1, 2, 3, 4, 5, 6, 7, 8, 9, 10, 11, 12, 13, 14, 15, 16], [15])])
def seg_Relate.B4 : List Nat := [0, 1, 0, 4, 0, 16, 63, 127, 0, 256, 0, 1024, 0, 4096, 16383, 32767, 65535, 131071]
theorem seg_Relate.tab4 : rtab .any (opsOf Try.f32 4) = seg_Relate.T4 := by kernel_rfl
theorem seg_Relate.bits4 : waitsOk seg_Relate.T4.2 seg_Relate.B4 = true := by kernel_rfl
def seg_Relate.T5 : Bool × List (List Nat × List Nat) := (true, [([], []), ([0], [0]), ([], []), ([2], [2]), ([], []), ([4], [4]), ([1, 3, 5], [1, 3, 5]), ([6, 6], [6]), ([], []), ([8], [8]), ([], []), ([10], [10]), ([], []), ([12], [12]), ([9, 11, 13, 7], [9, 11, 13]), ([14, 14], [14]), ([7, 15, 0, 1, 2, 3, 4, 5, 6, 7], [7]), ([15, 16, 0, 1, 2, 3, 4, 5, 6, 7, 8, 9, 10, 11, 12, 13, 14, 15, 16], [15])])
def seg_Relate.B5 : List Nat := [0, 1, 0, 4, 0, 16, 63, 127, 0, 256, 0, 1024, 0, 4096, 16383, 32767, 65535, 131071]
theorem seg_Relate.tab5 : rtab .any (opsOf Try.f32 5) = seg_Relate.T5 := by kernel_rfl
theorem seg_Relate.bits5 : waitsOk seg_Relate.T5.2 seg_Relate.B5 = true := by kernel_rfl
set_option maxHeartbeats 8000000 in
set_option maxRecDepth 100000 in
theorem seg_Relate.calls (k : Nat) (a0_0 : Int) (a0_1 : Int) (a0_2 : Int) (a0_3 : Int) (a1_0 : Int) (a1_1 : Int) (a1_2 : Int) (a1_3 : Int) (r : Int) (w : World) (h : seg_Relate.f k a0_0 a0_1 a0_2 a0_3 a1_0 a1_1 a1_2 a1_3 = some r) :
  Calls Try.prog 32 #[.agg #[.int .i64 a0_0, .int .i64 a0_1, .int .i64 a0_2, .int .i64 a0_3], .agg #[.int .i64 a1_0, .int .i64 a1_1, .int .i64 a1_2, .int .i64 a1_3]] w fun e w' => e = .returned (.int .i64 r) ∧ Below w.heap.size w w' := by
 have hu45 := Try.underlying45; have hu30 := Try.underlying30; have HB := Aside0.mk (Below.refl w.heap.size w); have H : ((seg_valid.f k (([(⟨a0_0, a0_1⟩ : S30), (⟨a0_2, a0_3⟩ : S30), (⟨a1_0, a1_1⟩ : S30), (⟨a1_2, a1_3⟩ : S30)] : List (S30)))).bind fun t143 => (if t143 = true then (if (a0_0 == a0_2 && (a0_1 == a0_3)) = true then (seg_Relate.j0 k true a0_0 a0_1 a0_2 a0_3 a1_0 a1_1 a1_2 a1_3) else (seg_Relate.j0 k (a1_0 == a1_2 && (a1_1 == a1_3)) a0_0 a0_1 a0_2 a0_3 a1_0 a1_1 a1_2 a1_3)) else (seg_Relate.j0 k true a0_0 a0_1 a0_2 a0_3 a1_0 a1_1 a1_2 a1_3))) = some r := h; clear h; have HC3 := Aside0.mk H; clear H
 go_enter Try.func32, Try.ntmps32
 go_upto_region 1 with (first | ((with_reducible refine gate_dst (N := 2) rfl ?_); refine box_event ?hg (N := 2) ?hd (cs := #[.int .i64 a0_0, .int .i64 a0_1, .int .i64 a0_2, .int .i64 a0_3]) (t := 45) ?hr ?_; (case hd => rfl); (case hg => rfl); (case hr => first | (go_simp; done) | (go_simp; rfl)); intro gb138 hg w4 hbox hb; have n0_ := Aside0.mk (below_step (bB HB.out) hb); have n1_ := Aside0.mk (hbox); have n2_ := Aside0.mk ((by rw [hg]; exact (below_size (bB HB.out)) : w.heap.size ≤ gb138)); have n3_ := n2_; clear HB; have HB := n0_; have BK138 := n1_; have GW138 := n2_; have GE138 := n3_; clear n0_ n1_ n2_ n3_ hb hbox hg) | ((with_reducible refine gate_dst (N := 3) rfl ?_); refine box_event ?hg (N := 3) ?hd (cs := #[.int .i64 a1_0, .int .i64 a1_1, .int .i64 a1_2, .int .i64 a1_3]) (t := 45) ?hr ?_; (case hd => rfl); (case hg => rfl); (case hr => first | (go_simp; done) | (go_simp; rfl)); intro gb139 hg w5 hbox hb; have n0_ := Aside0.mk (blk_below (bI BK138.out) hb); have n1_ := Aside0.mk (below_step (by repeat with_reducible first | exact HB.out | refine bC ?_ | refine below_set ?_ GE138.out) hb); have n2_ := Aside0.mk (hbox); have n3_ := Aside0.mk ((by rw [hg]; exact (below_size (by repeat with_reducible first | exact HB.out | refine bC ?_ | refine below_set ?_ GE138.out)) : w.heap.size ≤ gb139)); have n4_ := n3_; have n5_ := Aside0.mk ((by rw [hg]; exact Nat.ne_of_lt (blk_lt (bI BK138.out)) : gb138 ≠ gb139)); have n6_ : Aside0 (gb139 ≠ gb138) := ⟨Ne.symm n5_.out⟩; clear BK138 HB; have BK138 := n0_; have HB := n1_; have BK139 := n2_; have GW139 := n3_; have GE139 := n4_; have NB138_139 := n5_; have NB139_138 := n6_; clear n0_ n1_ n2_ n3_ n4_ n5_ n6_ hb hbox hg))
 (try simp only [Act.put, List.setIfInBounds_toArray, List.set_cons_zero, List.set_cons_succ])
 go_cut [33] (fun v33 wc => ∃ (kq : Nat) (x33_2 : Bool), v33 = .bool x33_2 ∧ Aside0 (seg_Relate.j0 kq x33_2 a0_0 a0_1 a0_2 a0_3 a1_0 a1_1 a1_2 a1_3 = some r) ∧ Aside0 (kq ≤ k) ∧ Aside0 (wc.heap[gb138]? = some (.cells #[.int .i64 a0_0, .int .i64 a0_1, .int .i64 a0_2, .int .i64 a0_3] 45 (0, 0))) ∧ Aside0 (wc.heap[gb139]? = some (.cells #[.int .i64 a1_0, .int .i64 a1_1, .int .i64 a1_2, .int .i64 a1_3] 45 (0, 0))) ∧ Aside0 (Below w.heap.size w wc))
 case first =>
  have H := HC3.out; clear HC3; obtain ⟨y140, hy140⟩ : ∃ y_ : List (S30), y_ = (([(⟨a0_0, a0_1⟩ : S30), (⟨a0_2, a0_3⟩ : S30), (⟨a1_0, a1_1⟩ : S30), (⟨a1_2, a1_3⟩ : S30)] : List (S30))) := ⟨_, rfl⟩; replace H : ((seg_valid.f k y140).bind fun t143 => (if t143 = true then (if (a0_0 == a0_2 && (a0_1 == a0_3)) = true then (seg_Relate.j0 k true a0_0 a0_1 a0_2 a0_3 a1_0 a1_1 a1_2 a1_3) else (seg_Relate.j0 k (a1_0 == a1_2 && (a1_1 == a1_3)) a0_0 a0_1 a0_2 a0_3 a1_0 a1_1 a1_2 a1_3)) else (seg_Relate.j0 k true a0_0 a0_1 a0_2 a0_3 a1_0 a1_1 a1_2 a1_3))) = some r := by first | (rw [hy140]; with_reducible exact H) | (have H2_ := (Option.bind_some _ _).symm.trans H; rw [hy140]; with_reducible exact H2_) | (have H2_ := (Option.bind_some _ _).symm.trans H; with_reducible exact H2_) | with_reducible exact H | (rw [hy140]; exact H) | exact H
  have Ny140 := Aside0.mk hy140; clear hy140; replace H := Option.bind_eq_some_iff.mp H; obtain ⟨t143, A60, H⟩ := H; replace H : (if t143 = true then (if (a0_0 == a0_2 && (a0_1 == a0_3)) = true then (seg_Relate.j0 k true a0_0 a0_1 a0_2 a0_3 a1_0 a1_1 a1_2 a1_3) else (seg_Relate.j0 k (a1_0 == a1_2 && (a1_1 == a1_3)) a0_0 a0_1 a0_2 a0_3 a1_0 a1_1 a1_2 a1_3)) else (seg_Relate.j0 k true a0_0 a0_1 a0_2 a0_3 a1_0 a1_1 a1_2 a1_3)) = some r := H; have A6 := Aside0.mk A60; clear A60
  by_cases c7 : t143 = true
  ·subst c7; have H1 : (if (a0_0 == a0_2 && (a0_1 == a0_3)) = true then (seg_Relate.j0 k true a0_0 a0_1 a0_2 a0_3 a1_0 a1_1 a1_2 a1_3) else (seg_Relate.j0 k (a1_0 == a1_2 && (a1_1 == a1_3)) a0_0 a0_1 a0_2 a0_3 a1_0 a1_1 a1_2 a1_3)) = some r := by rw [if_pos rfl] at H; exact H
   clear H; have H := H1; clear H1
   by_cases c8 : (a0_0 == a0_2 && (a0_1 == a0_3)) = true
   ·rw [if_pos c8] at H
    have c8b0 : (a0_0 == a0_2 && (a0_1 == a0_3)) = true := c8; (try (have c8b1 : decide (a0_0 = a0_2 && (a0_1 == a0_3)) = true := by simpa using c8)); (try (have c8b2 : (a0_0 == a0_2 && (a0_1 == a0_3)) = true := by simpa using c8)); clear c8; (first | rw [c8b0] | (simp only [i64_w, i32_w]; rw [c8b0]) | skip); have H' := Aside0.mk H; clear H; have hnb9 := NB138_139.out; have hnc9 := NB139_138.out; have hcz10_0 : w5.cell? ⟨gb138, 0, none⟩ = some (.int .i64 a0_0) := (blk_cell BK138.out 0).trans rfl; have hcz10_1 : w5.cell? ⟨gb138, 1, none⟩ = some (.int .i64 a0_1) := (blk_cell BK138.out 1).trans rfl; have hcz10_2 : w5.cell? ⟨gb138, 2, none⟩ = some (.int .i64 a0_2) := (blk_cell BK138.out 2).trans rfl; have hcz10_3 : w5.cell? ⟨gb138, 3, none⟩ = some (.int .i64 a0_3) := (blk_cell BK138.out 3).trans rfl; have hfz10_0 := blk_frozen BK138.out 0; have hfz10_1 := blk_frozen BK138.out 1; have hfz10_2 := blk_frozen BK138.out 2; have hfz10_3 := blk_frozen BK138.out 3; have hcz11_0 : w5.cell? ⟨gb139, 0, none⟩ = some (.int .i64 a1_0) := (blk_cell BK139.out 0).trans rfl; have hcz11_1 : w5.cell? ⟨gb139, 1, none⟩ = some (.int .i64 a1_1) := (blk_cell BK139.out 1).trans rfl; have hcz11_2 : w5.cell? ⟨gb139, 2, none⟩ = some (.int .i64 a1_2) := (blk_cell BK139.out 2).trans rfl; have hcz11_3 : w5.cell? ⟨gb139, 3, none⟩ = some (.int .i64 a1_3) := (blk_cell BK139.out 3).trans rfl; have hfz11_0 := blk_frozen BK139.out 0; have hfz11_1 := blk_frozen BK139.out 1; have hfz11_2 := blk_frozen BK139.out 2; have hfz11_3 := blk_frozen BK139.out 3
    go_wp2_with (first | ((with_reducible refine gate_dst (N := 17) rfl ?_); refine Kd.R_lit k30 _ 30 ?hg (N := 17) ?hd (xs := ([(⟨a0_0, a0_1⟩ : S30), (⟨a0_2, a0_3⟩ : S30), (⟨a1_0, a1_1⟩ : S30), (⟨a1_2, a1_3⟩ : S30)] : List (S30))) (inner := [.int .i64 a0_0, .int .i64 a0_1, .int .i64 a0_2, .int .i64 a0_3, .int .i64 a1_0, .int .i64 a1_1, .int .i64 a1_2, .int .i64 a1_3]) (ok := fun _ => True) (okp := fun _ => True) ?hr ?hp (fun _ hk => hk) trivial (Below.refl _ _) (Nat.le_refl _) (by simp) ?_; (case hd => rfl); (case hg => rfl); (case hr => first | (go_simp; done) | (go_simp; rfl)); (case hp => exact (Reps.c2 (show Kd.M k30 _ _ _ (⟨a0_0, a0_1⟩ : S30) [.int .i64 a0_0, .int .i64 a0_1] from (k30_mkM _ _ _ (⟨a0_0, a0_1⟩ : S30) )) (Reps.c2 (show Kd.M k30 _ _ _ (⟨a0_2, a0_3⟩ : S30) [.int .i64 a0_2, .int .i64 a0_3] from (k30_mkM _ _ _ (⟨a0_2, a0_3⟩ : S30) )) (Reps.c2 (show Kd.M k30 _ _ _ (⟨a1_0, a1_1⟩ : S30) [.int .i64 a1_0, .int .i64 a1_1] from (k30_mkM _ _ _ (⟨a1_0, a1_1⟩ : S30) )) (Reps.c2 (show Kd.M k30 _ _ _ (⟨a1_2, a1_3⟩ : S30) [.int .i64 a1_2, .int .i64 a1_3] from (k30_mkM _ _ _ (⟨a1_2, a1_3⟩ : S30) )) (Reps.none _ _)))))); intro v141 w12 ho13 hb hg_ hnew_; clear hg_ hnew_; (first | rw [← Ny140.out] at ho13 | (simp only [Int.reduceToNat] at ho13; rw [← Ny140.out] at ho13)); have n0_ := Aside0.mk (Kd.R_lower ho13 (below_size (by repeat with_reducible first | exact HB.out | refine bC ?_ | refine below_set ?_ GE138.out | refine below_set ?_ GE139.out))); have n1_ := Aside0.mk (blk_below (bI BK138.out) hb); have n2_ := Aside0.mk (blk_below (bI BK139.out) hb); have n3_ := Aside0.mk (below_step (by repeat with_reducible first | exact HB.out | refine bC ?_ | refine below_set ?_ GE138.out | refine below_set ?_ GE139.out) hb); clear BK138 BK139 HB; have HO142 := n0_; have BK138 := n1_; have BK139 := n2_; have HB := n3_; clear n0_ n1_ n2_ n3_ hb ho13; obtain ⟨Ao14, co14, eo14⟩ := Kd.R_slice HO142.out; subst eo14) | ((with_reducible refine gate_callee (f := 50) rfl ?_); refine goesL_ (some 18) rfl rfl Try.func50 (by kernel_rfl) rfl #[.slice Ao14 y140.length co14] rfl (by (try simp only [List.map_toArray, List.map_cons, List.map_nil]); first | done | rfl | (simp only [List.length_drop, List.length_take]; rfl)) ?_; (with_reducible refine (seg_valid.calls k _ _ y140 true _ ?side1 ?side2 A6.out).mono ?_); (case side1 => repeat (first | exact (Kd.R_reads' HO142.out).2.2 | (with_reducible refine Kd.C_alloc ?_ _) | (with_reducible refine Kd.C_drewN ?_ _) | (with_reducible refine Kd.C_drew ?_))); (case side2 => exact (Kd.R_reads' HO142.out).2.1); rintro e w15 ⟨rfl, hb⟩; refine ⟨_, rfl, ?_⟩; have n0_ := Aside0.mk (Kd.R_below (by (with_reducible repeat (first | apply Kd.R_alloc | apply Kd.R_drewN | apply Kd.R_drew)); exact HO142.out) hb); have n1_ := Aside0.mk (blk_below (bI BK138.out) hb); have n2_ := Aside0.mk (blk_below (bI BK139.out) hb); have n3_ := Aside0.mk (below_step (by repeat with_reducible first | exact HB.out | refine bC ?_ | refine below_set ?_ GE138.out | refine below_set ?_ GE139.out) hb); clear HO142 BK138 BK139 HB; have HO142 := n0_; have BK138 := n1_; have BK139 := n2_; have HB := n3_; clear n0_ n1_ n2_ n3_; (try clear hb); (try clear hb2); (try clear hk); (try clear hi); have hcz16_0 : w15.cell? ⟨gb138, 0, none⟩ = some (.int .i64 a0_0) := (blk_cell BK138.out 0).trans rfl; have hcz16_1 : w15.cell? ⟨gb138, 1, none⟩ = some (.int .i64 a0_1) := (blk_cell BK138.out 1).trans rfl; have hcz16_2 : w15.cell? ⟨gb138, 2, none⟩ = some (.int .i64 a0_2) := (blk_cell BK138.out 2).trans rfl; have hcz16_3 : w15.cell? ⟨gb138, 3, none⟩ = some (.int .i64 a0_3) := (blk_cell BK138.out 3).trans rfl; have hfz16_0 := blk_frozen BK138.out 0; have hfz16_1 := blk_frozen BK138.out 1; have hfz16_2 := blk_frozen BK138.out 2; have hfz16_3 := blk_frozen BK138.out 3))
    go_meet
    case rel => exact ⟨_, (true), (by first | rfl | (simp; done) | (simp [*]; done)), H', ⟨by first | omega | exact Nat.le_refl _⟩, ⟨by refine bI ?_; exact BK138.out⟩, ⟨by refine bI ?_; exact BK139.out⟩, ⟨by repeat with_reducible first | exact HB.out | refine bC ?_ | refine below_set ?_ GE138.out | refine below_set ?_ GE139.out⟩⟩
   ·rw [if_neg c8] at H
    have c8b0 : (a0_0 == a0_2 && (a0_1 == a0_3)) = false := by simpa using c8
    (try (have c8b1 : decide (a0_0 = a0_2 && (a0_1 == a0_3)) = false := by simpa using c8)); (try (have c8b2 : (a0_0 == a0_2 && (a0_1 == a0_3)) = false := by simpa using c8)); (try (have c8b3 : ¬ (a0_0 = a0_2 && (a0_1 == a0_3)) := by simpa using c8)); clear c8; (first | rw [c8b0] | (simp only [i64_w, i32_w]; rw [c8b0]) | skip); have H' := Aside0.mk H; clear H; have hnb17 := NB138_139.out; have hnc17 := NB139_138.out; have hcz18_0 : w5.cell? ⟨gb138, 0, none⟩ = some (.int .i64 a0_0) := (blk_cell BK138.out 0).trans rfl; have hcz18_1 : w5.cell? ⟨gb138, 1, none⟩ = some (.int .i64 a0_1) := (blk_cell BK138.out 1).trans rfl; have hcz18_2 : w5.cell? ⟨gb138, 2, none⟩ = some (.int .i64 a0_2) := (blk_cell BK138.out 2).trans rfl; have hcz18_3 : w5.cell? ⟨gb138, 3, none⟩ = some (.int .i64 a0_3) := (blk_cell BK138.out 3).trans rfl; have hfz18_0 := blk_frozen BK138.out 0; have hfz18_1 := blk_frozen BK138.out 1; have hfz18_2 := blk_frozen BK138.out 2; have hfz18_3 := blk_frozen BK138.out 3; have hcz19_0 : w5.cell? ⟨gb139, 0, none⟩ = some (.int .i64 a1_0) := (blk_cell BK139.out 0).trans rfl; have hcz19_1 : w5.cell? ⟨gb139, 1, none⟩ = some (.int .i64 a1_1) := (blk_cell BK139.out 1).trans rfl; have hcz19_2 : w5.cell? ⟨gb139, 2, none⟩ = some (.int .i64 a1_2) := (blk_cell BK139.out 2).trans rfl; have hcz19_3 : w5.cell? ⟨gb139, 3, none⟩ = some (.int .i64 a1_3) := (blk_cell BK139.out 3).trans rfl; have hfz19_0 := blk_frozen BK139.out 0; have hfz19_1 := blk_frozen BK139.out 1; have hfz19_2 := blk_frozen BK139.out 2; have hfz19_3 := blk_frozen BK139.out 3
    go_wp2_with (first | ((with_reducible refine gate_dst (N := 17) rfl ?_); refine Kd.R_lit k30 _ 30 ?hg (N := 17) ?hd (xs := ([(⟨a0_0, a0_1⟩ : S30), (⟨a0_2, a0_3⟩ : S30), (⟨a1_0, a1_1⟩ : S30), (⟨a1_2, a1_3⟩ : S30)] : List (S30))) (inner := [.int .i64 a0_0, .int .i64 a0_1, .int .i64 a0_2, .int .i64 a0_3, .int .i64 a1_0, .int .i64 a1_1, .int .i64 a1_2, .int .i64 a1_3]) (ok := fun _ => True) (okp := fun _ => True) ?hr ?hp (fun _ hk => hk) trivial (Below.refl _ _) (Nat.le_refl _) (by simp) ?_; (case hd => rfl); (case hg => rfl); (case hr => first | (go_simp; done) | (go_simp; rfl)); (case hp => exact (Reps.c2 (show Kd.M k30 _ _ _ (⟨a0_0, a0_1⟩ : S30) [.int .i64 a0_0, .int .i64 a0_1] from (k30_mkM _ _ _ (⟨a0_0, a0_1⟩ : S30) )) (Reps.c2 (show Kd.M k30 _ _ _ (⟨a0_2, a0_3⟩ : S30) [.int .i64 a0_2, .int .i64 a0_3] from (k30_mkM _ _ _ (⟨a0_2, a0_3⟩ : S30) )) (Reps.c2 (show Kd.M k30 _ _ _ (⟨a1_0, a1_1⟩ : S30) [.int .i64 a1_0, .int .i64 a1_1] from (k30_mkM _ _ _ (⟨a1_0, a1_1⟩ : S30) )) (Reps.c2 (show Kd.M k30 _ _ _ (⟨a1_2, a1_3⟩ : S30) [.int .i64 a1_2, .int .i64 a1_3] from (k30_mkM _ _ _ (⟨a1_2, a1_3⟩ : S30) )) (Reps.none _ _)))))); intro v141 w20 ho21 hb hg_ hnew_; clear hg_ hnew_; (first | rw [← Ny140.out] at ho21 | (simp only [Int.reduceToNat] at ho21; rw [← Ny140.out] at ho21)); have n0_ := Aside0.mk (Kd.R_lower ho21 (below_size (by repeat with_reducible first | exact HB.out | refine bC ?_ | refine below_set ?_ GE138.out | refine below_set ?_ GE139.out))); have n1_ := Aside0.mk (blk_below (bI BK138.out) hb); have n2_ := Aside0.mk (blk_below (bI BK139.out) hb); have n3_ := Aside0.mk (below_step (by repeat with_reducible first | exact HB.out | refine bC ?_ | refine below_set ?_ GE138.out | refine below_set ?_ GE139.out) hb); clear BK138 BK139 HB; have HO142 := n0_; have BK138 := n1_; have BK139 := n2_; have HB := n3_; clear n0_ n1_ n2_ n3_ hb ho21; obtain ⟨Ao22, co22, eo22⟩ := Kd.R_slice HO142.out; subst eo22) | ((with_reducible refine gate_callee (f := 50) rfl ?_); refine goesL_ (some 18) rfl rfl Try.func50 (by kernel_rfl) rfl #[.slice Ao22 y140.length co22] rfl (by (try simp only [List.map_toArray, List.map_cons, List.map_nil]); first | done | rfl | (simp only [List.length_drop, List.length_take]; rfl)) ?_; (with_reducible refine (seg_valid.calls k _ _ y140 true _ ?side1 ?side2 A6.out).mono ?_); (case side1 => repeat (first | exact (Kd.R_reads' HO142.out).2.2 | (with_reducible refine Kd.C_alloc ?_ _) | (with_reducible refine Kd.C_drewN ?_ _) | (with_reducible refine Kd.C_drew ?_))); (case side2 => exact (Kd.R_reads' HO142.out).2.1); rintro e w23 ⟨rfl, hb⟩; refine ⟨_, rfl, ?_⟩; have n0_ := Aside0.mk (Kd.R_below (by (with_reducible repeat (first | apply Kd.R_alloc | apply Kd.R_drewN | apply Kd.R_drew)); exact HO142.out) hb); have n1_ := Aside0.mk (blk_below (bI BK138.out) hb); have n2_ := Aside0.mk (blk_below (bI BK139.out) hb); have n3_ := Aside0.mk (below_step (by repeat with_reducible first | exact HB.out | refine bC ?_ | refine below_set ?_ GE138.out | refine below_set ?_ GE139.out) hb); clear HO142 BK138 BK139 HB; have HO142 := n0_; have BK138 := n1_; have BK139 := n2_; have HB := n3_; clear n0_ n1_ n2_ n3_; (try clear hb); (try clear hb2); (try clear hk); (try clear hi); have hcz24_0 : w23.cell? ⟨gb138, 0, none⟩ = some (.int .i64 a0_0) := (blk_cell BK138.out 0).trans rfl; have hcz24_1 : w23.cell? ⟨gb138, 1, none⟩ = some (.int .i64 a0_1) := (blk_cell BK138.out 1).trans rfl; have hcz24_2 : w23.cell? ⟨gb138, 2, none⟩ = some (.int .i64 a0_2) := (blk_cell BK138.out 2).trans rfl; have hcz24_3 : w23.cell? ⟨gb138, 3, none⟩ = some (.int .i64 a0_3) := (blk_cell BK138.out 3).trans rfl; have hfz24_0 := blk_frozen BK138.out 0; have hfz24_1 := blk_frozen BK138.out 1; have hfz24_2 := blk_frozen BK138.out 2; have hfz24_3 := blk_frozen BK138.out 3; have hcz25_0 : w23.cell? ⟨gb139, 0, none⟩ = some (.int .i64 a1_0) := (blk_cell BK139.out 0).trans rfl; have hcz25_1 : w23.cell? ⟨gb139, 1, none⟩ = some (.int .i64 a1_1) := (blk_cell BK139.out 1).trans rfl; have hcz25_2 : w23.cell? ⟨gb139, 2, none⟩ = some (.int .i64 a1_2) := (blk_cell BK139.out 2).trans rfl; have hcz25_3 : w23.cell? ⟨gb139, 3, none⟩ = some (.int .i64 a1_3) := (blk_cell BK139.out 3).trans rfl; have hfz25_0 := blk_frozen BK139.out 0; have hfz25_1 := blk_frozen BK139.out 1; have hfz25_2 := blk_frozen BK139.out 2; have hfz25_3 := blk_frozen BK139.out 3))
    go_meet
    case rel => exact ⟨_, ((a1_0 == a1_2 && (a1_1 == a1_3))), (by first | rfl | (simp; done) | (simp [*]; done)), H', ⟨by first | omega | exact Nat.le_refl _⟩, ⟨by refine bI ?_; exact BK138.out⟩, ⟨by refine bI ?_; exact BK139.out⟩, ⟨by repeat with_reducible first | exact HB.out | refine bC ?_ | refine below_set ?_ GE138.out | refine below_set ?_ GE139.out⟩⟩
  ·replace c7 := Bool.eq_false_iff.mpr c7; subst c7; have H1 : (seg_Relate.j0 k true a0_0 a0_1 a0_2 a0_3 a1_0 a1_1 a1_2 a1_3) = some r := by rw [if_neg (show ¬ (false = true) by decide)] at H; exact H
   clear H; have H := H1; clear H1; have H' := Aside0.mk H; clear H; have hnb26 := NB138_139.out; have hnc26 := NB139_138.out; have hcz27_0 : w5.cell? ⟨gb138, 0, none⟩ = some (.int .i64 a0_0) := (blk_cell BK138.out 0).trans rfl; have hcz27_1 : w5.cell? ⟨gb138, 1, none⟩ = some (.int .i64 a0_1) := (blk_cell BK138.out 1).trans rfl; have hcz27_2 : w5.cell? ⟨gb138, 2, none⟩ = some (.int .i64 a0_2) := (blk_cell BK138.out 2).trans rfl; have hcz27_3 : w5.cell? ⟨gb138, 3, none⟩ = some (.int .i64 a0_3) := (blk_cell BK138.out 3).trans rfl; have hfz27_0 := blk_frozen BK138.out 0; have hfz27_1 := blk_frozen BK138.out 1; have hfz27_2 := blk_frozen BK138.out 2; have hfz27_3 := blk_frozen BK138.out 3; have hcz28_0 : w5.cell? ⟨gb139, 0, none⟩ = some (.int .i64 a1_0) := (blk_cell BK139.out 0).trans rfl; have hcz28_1 : w5.cell? ⟨gb139, 1, none⟩ = some (.int .i64 a1_1) := (blk_cell BK139.out 1).trans rfl; have hcz28_2 : w5.cell? ⟨gb139, 2, none⟩ = some (.int .i64 a1_2) := (blk_cell BK139.out 2).trans rfl; have hcz28_3 : w5.cell? ⟨gb139, 3, none⟩ = some (.int .i64 a1_3) := (blk_cell BK139.out 3).trans rfl; have hfz28_0 := blk_frozen BK139.out 0; have hfz28_1 := blk_frozen BK139.out 1; have hfz28_2 := blk_frozen BK139.out 2; have hfz28_3 := blk_frozen BK139.out 3
   go_wp2_with (first | ((with_reducible refine gate_dst (N := 17) rfl ?_); refine Kd.R_lit k30 _ 30 ?hg (N := 17) ?hd (xs := ([(⟨a0_0, a0_1⟩ : S30), (⟨a0_2, a0_3⟩ : S30), (⟨a1_0, a1_1⟩ : S30), (⟨a1_2, a1_3⟩ : S30)] : List (S30))) (inner := [.int .i64 a0_0, .int .i64 a0_1, .int .i64 a0_2, .int .i64 a0_3, .int .i64 a1_0, .int .i64 a1_1, .int .i64 a1_2, .int .i64 a1_3]) (ok := fun _ => True) (okp := fun _ => True) ?hr ?hp (fun _ hk => hk) trivial (Below.refl _ _) (Nat.le_refl _) (by simp) ?_; (case hd => rfl); (case hg => rfl); (case hr => first | (go_simp; done) | (go_simp; rfl)); (case hp => exact (Reps.c2 (show Kd.M k30 _ _ _ (⟨a0_0, a0_1⟩ : S30) [.int .i64 a0_0, .int .i64 a0_1] from (k30_mkM _ _ _ (⟨a0_0, a0_1⟩ : S30) )) (Reps.c2 (show Kd.M k30 _ _ _ (⟨a0_2, a0_3⟩ : S30) [.int .i64 a0_2, .int .i64 a0_3] from (k30_mkM _ _ _ (⟨a0_2, a0_3⟩ : S30) )) (Reps.c2 (show Kd.M k30 _ _ _ (⟨a1_0, a1_1⟩ : S30) [.int .i64 a1_0, .int .i64 a1_1] from (k30_mkM _ _ _ (⟨a1_0, a1_1⟩ : S30) )) (Reps.c2 (show Kd.M k30 _ _ _ (⟨a1_2, a1_3⟩ : S30) [.int .i64 a1_2, .int .i64 a1_3] from (k30_mkM _ _ _ (⟨a1_2, a1_3⟩ : S30) )) (Reps.none _ _)))))); intro v141 w29 ho30 hb hg_ hnew_; clear hg_ hnew_; (first | rw [← Ny140.out] at ho30 | (simp only [Int.reduceToNat] at ho30; rw [← Ny140.out] at ho30)); have n0_ := Aside0.mk (Kd.R_lower ho30 (below_size (by repeat with_reducible first | exact HB.out | refine bC ?_ | refine below_set ?_ GE138.out | refine below_set ?_ GE139.out))); have n1_ := Aside0.mk (blk_below (bI BK138.out) hb); have n2_ := Aside0.mk (blk_below (bI BK139.out) hb); have n3_ := Aside0.mk (below_step (by repeat with_reducible first | exact HB.out | refine bC ?_ | refine below_set ?_ GE138.out | refine below_set ?_ GE139.out) hb); clear BK138 BK139 HB; have HO142 := n0_; have BK138 := n1_; have BK139 := n2_; have HB := n3_; clear n0_ n1_ n2_ n3_ hb ho30; obtain ⟨Ao31, co31, eo31⟩ := Kd.R_slice HO142.out; subst eo31) | ((with_reducible refine gate_callee (f := 50) rfl ?_); refine goesL_ (some 18) rfl rfl Try.func50 (by kernel_rfl) rfl #[.slice Ao31 y140.length co31] rfl (by (try simp only [List.map_toArray, List.map_cons, List.map_nil]); first | done | rfl | (simp only [List.length_drop, List.length_take]; rfl)) ?_; (with_reducible refine (seg_valid.calls k _ _ y140 false _ ?side1 ?side2 A6.out).mono ?_); (case side1 => repeat (first | exact (Kd.R_reads' HO142.out).2.2 | (with_reducible refine Kd.C_alloc ?_ _) | (with_reducible refine Kd.C_drewN ?_ _) | (with_reducible refine Kd.C_drew ?_))); (case side2 => exact (Kd.R_reads' HO142.out).2.1); rintro e w32 ⟨rfl, hb⟩; refine ⟨_, rfl, ?_⟩; have n0_ := Aside0.mk (Kd.R_below (by (with_reducible repeat (first | apply Kd.R_alloc | apply Kd.R_drewN | apply Kd.R_drew)); exact HO142.out) hb); have n1_ := Aside0.mk (blk_below (bI BK138.out) hb); have n2_ := Aside0.mk (blk_below (bI BK139.out) hb); have n3_ := Aside0.mk (below_step (by repeat with_reducible first | exact HB.out | refine bC ?_ | refine below_set ?_ GE138.out | refine below_set ?_ GE139.out) hb); clear HO142 BK138 BK139 HB; have HO142 := n0_; have BK138 := n1_; have BK139 := n2_; have HB := n3_; clear n0_ n1_ n2_ n3_; (try clear hb); (try clear hb2); (try clear hk); (try clear hi)))
   go_meet
   case rel => exact ⟨_, (true), (by first | rfl | (simp; done) | (simp [*]; done)), H', ⟨by first | omega | exact Nat.le_refl _⟩, ⟨by refine bI ?_; exact BK138.out⟩, ⟨by refine bI ?_; exact BK139.out⟩, ⟨by repeat with_reducible first | exact HB.out | refine bC ?_ | refine below_set ?_ GE138.out | refine below_set ?_ GE139.out⟩⟩
 case rest =>
  clear HC3
  try clear c1
  try clear c2
  try clear p2
  try clear c3
  try clear c5
  try clear c7
  try clear c8
  try clear c8b0
  try clear c8b1
  try clear c8b2
  try clear c9
  try clear c17
  try clear c26
  try clear c32
  try clear hcz10_0
  try clear hcz10_1
  try clear hcz10_2
  try clear hcz10_3
  try clear hcz11_0
  try clear hcz11_1
  try clear hcz11_2
  try clear hcz11_3
  try clear hcz16_0
  try clear hcz16_1
  try clear hcz16_2
  try clear hcz16_3
  try clear hcz18_0
  try clear hcz18_1
  try clear hcz18_2
  try clear hcz18_3
  try clear hcz19_0
  try clear hcz19_1
  try clear hcz19_2
  try clear hcz19_3
  try clear hcz24_0
  try clear hcz24_1
  try clear hcz24_2
  try clear hcz24_3
  try clear hcz25_0
  try clear hcz25_1
  try clear hcz25_2
  try clear hcz25_3
  try clear hcz27_0
  try clear hcz27_1
  try clear hcz27_2
  try clear hcz27_3
  try clear hcz28_0
  try clear hcz28_1
  try clear hcz28_2
  try clear hcz28_3
  try clear hfz10_0
  try clear hfz10_1
  try clear hfz10_2
  try clear hfz10_3
  try clear hfz11_0
  try clear hfz11_1
  try clear hfz11_2
  try clear hfz11_3
  try clear hfz16_0
  try clear hfz16_1
  try clear hfz16_2
  try clear hfz16_3
  try clear hfz18_0
  try clear hfz18_1
  try clear hfz18_2
  try clear hfz18_3
  try clear hfz19_0
  try clear hfz19_1
  try clear hfz19_2
  try clear hfz19_3
  try clear hfz24_0
  try clear hfz24_1
  try clear hfz24_2
  try clear hfz24_3
  try clear hfz25_0
  try clear hfz25_1
  try clear hfz25_2
  try clear hfz25_3
  try clear hfz27_0
  try clear hfz27_1
  try clear hfz27_2
  try clear hfz27_3
  try clear hfz28_0
  try clear hfz28_1
  try clear hfz28_2
  try clear hfz28_3
  obtain ⟨kq, x33_2, rfl, HA, HJ2, BK138, BK139, HB⟩ := hcut
  cases kq with
  | zero => exact absurd HA.out (by simp [seg_Relate.j0])
  | succ kj2 =>
   have H := HA.out; clear HA; simp only [seg_Relate.j0] at H
   by_cases c33 : x33_2 = true
   ·subst c33; have H1 : (some 0) = some r := by rw [if_pos rfl] at H; exact H
    clear H; have H := H1; clear H1; obtain rfl := Option.some.inj H
    go_wp2
    go_ret
    exact ⟨by first | rfl | (simp [errW_none, errW_some] <;> rfl) | (simp [*, errW_none, errW_some] <;> rfl), by repeat with_reducible first | exact HB.out | refine bC ?_ | refine below_set ?_ GE138.out | refine below_set ?_ GE139.out⟩
   ·replace c33 := Bool.eq_false_iff.mpr c33; subst c33; have H1 : ((seg_Of.f a0_0 a0_1 a0_2 a0_3).bind fun bt144 => ((seg_Of.f a1_0 a1_1 a1_2 a1_3).bind fun bt148 => ((seg_Turn.f kj2 bt144.1 bt144.2.1 bt144.2.2.1 bt144.2.2.2 bt148.1 bt148.2.1).bind fun t152 => ((seg_sign.f t152).bind fun t153 => ((seg_Turn.f kj2 bt144.1 bt144.2.1 bt144.2.2.1 bt144.2.2.2 bt148.2.2.1 bt148.2.2.2).bind fun t154 => ((seg_sign.f t154).bind fun t155 => ((seg_Turn.f kj2 bt148.1 bt148.2.1 bt148.2.2.1 bt148.2.2.2 bt144.1 bt144.2.1).bind fun t156 => ((seg_sign.f t156).bind fun t157 => ((seg_Turn.f kj2 bt148.1 bt148.2.1 bt148.2.2.1 bt148.2.2.2 bt144.2.2.1 bt144.2.2.2).bind fun t158 => ((seg_sign.f t158).bind fun t159 => (if t153 = 0 then (seg_Relate.j1 kj2 t153 t155 t157 t159 (t155 == 0) bt144.1 bt144.2.1 bt144.2.2.1 bt144.2.2.2 bt148.1 bt148.2.1 bt148.2.2.1 bt148.2.2.2) else (seg_Relate.j1 kj2 t153 t155 t157 t159 false bt144.1 bt144.2.1 bt144.2.2.1 bt144.2.2.2 bt148.1 bt148.2.1 bt148.2.2.1 bt148.2.2.2)))))))))))) = some r := by rw [if_neg (show ¬ (false = true) by decide)] at H; exact H
    clear H; have H := H1; clear H1; replace H := Option.bind_eq_some_iff.mp H; obtain ⟨⟨t144, t145, t146, t147⟩, A340, H⟩ := H; replace H : ((seg_Of.f a1_0 a1_1 a1_2 a1_3).bind fun bt148 => ((seg_Turn.f kj2 t144 t145 t146 t147 bt148.1 bt148.2.1).bind fun t152 => ((seg_sign.f t152).bind fun t153 => ((seg_Turn.f kj2 t144 t145 t146 t147 bt148.2.2.1 bt148.2.2.2).bind fun t154 => ((seg_sign.f t154).bind fun t155 => ((seg_Turn.f kj2 bt148.1 bt148.2.1 bt148.2.2.1 bt148.2.2.2 t144 t145).bind fun t156 => ((seg_sign.f t156).bind fun t157 => ((seg_Turn.f kj2 bt148.1 bt148.2.1 bt148.2.2.1 bt148.2.2.2 t146 t147).bind fun t158 => ((seg_sign.f t158).bind fun t159 => (if t153 = 0 then (seg_Relate.j1 kj2 t153 t155 t157 t159 (t155 == 0) t144 t145 t146 t147 bt148.1 bt148.2.1 bt148.2.2.1 bt148.2.2.2) else (seg_Relate.j1 kj2 t153 t155 t157 t159 false t144 t145 t146 t147 bt148.1 bt148.2.1 bt148.2.2.1 bt148.2.2.2))))))))))) = some r := H; have A34 := Aside0.mk A340; clear A340; replace H := Option.bind_eq_some_iff.mp H; obtain ⟨⟨t148, t149, t150, t151⟩, A350, H⟩ := H; replace H : ((seg_Turn.f kj2 t144 t145 t146 t147 t148 t149).bind fun t152 => ((seg_sign.f t152).bind fun t153 => ((seg_Turn.f kj2 t144 t145 t146 t147 t150 t151).bind fun t154 => ((seg_sign.f t154).bind fun t155 => ((seg_Turn.f kj2 t148 t149 t150 t151 t144 t145).bind fun t156 => ((seg_sign.f t156).bind fun t157 => ((seg_Turn.f kj2 t148 t149 t150 t151 t146 t147).bind fun t158 => ((seg_sign.f t158).bind fun t159 => (if t153 = 0 then (seg_Relate.j1 kj2 t153 t155 t157 t159 (t155 == 0) t144 t145 t146 t147 t148 t149 t150 t151) else (seg_Relate.j1 kj2 t153 t155 t157 t159 false t144 t145 t146 t147 t148 t149 t150 t151)))))))))) = some r := H; have A35 := Aside0.mk A350; clear A350; replace H := Option.bind_eq_some_iff.mp H; obtain ⟨t152, A360, H⟩ := H; replace H : ((seg_sign.f t152).bind fun t153 => ((seg_Turn.f kj2 t144 t145 t146 t147 t150 t151).bind fun t154 => ((seg_sign.f t154).bind fun t155 => ((seg_Turn.f kj2 t148 t149 t150 t151 t144 t145).bind fun t156 => ((seg_sign.f t156).bind fun t157 => ((seg_Turn.f kj2 t148 t149 t150 t151 t146 t147).bind fun t158 => ((seg_sign.f t158).bind fun t159 => (if t153 = 0 then (seg_Relate.j1 kj2 t153 t155 t157 t159 (t155 == 0) t144 t145 t146 t147 t148 t149 t150 t151) else (seg_Relate.j1 kj2 t153 t155 t157 t159 false t144 t145 t146 t147 t148 t149 t150 t151))))))))) = some r := H; have A36 := Aside0.mk A360; clear A360; replace H := Option.bind_eq_some_iff.mp H; obtain ⟨t153, A370, H⟩ := H; replace H : ((seg_Turn.f kj2 t144 t145 t146 t147 t150 t151).bind fun t154 => ((seg_sign.f t154).bind fun t155 => ((seg_Turn.f kj2 t148 t149 t150 t151 t144 t145).bind fun t156 => ((seg_sign.f t156).bind fun t157 => ((seg_Turn.f kj2 t148 t149 t150 t151 t146 t147).bind fun t158 => ((seg_sign.f t158).bind fun t159 => (if t153 = 0 then (seg_Relate.j1 kj2 t153 t155 t157 t159 (t155 == 0) t144 t145 t146 t147 t148 t149 t150 t151) else (seg_Relate.j1 kj2 t153 t155 t157 t159 false t144 t145 t146 t147 t148 t149 t150 t151)))))))) = some r := H; have A37 := Aside0.mk A370; clear A370; replace H := Option.bind_eq_some_iff.mp H; obtain ⟨t154, A380, H⟩ := H; replace H : ((seg_sign.f t154).bind fun t155 => ((seg_Turn.f kj2 t148 t149 t150 t151 t144 t145).bind fun t156 => ((seg_sign.f t156).bind fun t157 => ((seg_Turn.f kj2 t148 t149 t150 t151 t146 t147).bind fun t158 => ((seg_sign.f t158).bind fun t159 => (if t153 = 0 then (seg_Relate.j1 kj2 t153 t155 t157 t159 (t155 == 0) t144 t145 t146 t147 t148 t149 t150 t151) else (seg_Relate.j1 kj2 t153 t155 t157 t159 false t144 t145 t146 t147 t148 t149 t150 t151))))))) = some r := H; have A38 := Aside0.mk A380; clear A380; replace H := Option.bind_eq_some_iff.mp H; obtain ⟨t155, A390, H⟩ := H; replace H : ((seg_Turn.f kj2 t148 t149 t150 t151 t144 t145).bind fun t156 => ((seg_sign.f t156).bind fun t157 => ((seg_Turn.f kj2 t148 t149 t150 t151 t146 t147).bind fun t158 => ((seg_sign.f t158).bind fun t159 => (if t153 = 0 then (seg_Relate.j1 kj2 t153 t155 t157 t159 (t155 == 0) t144 t145 t146 t147 t148 t149 t150 t151) else (seg_Relate.j1 kj2 t153 t155 t157 t159 false t144 t145 t146 t147 t148 t149 t150 t151)))))) = some r := H; have A39 := Aside0.mk A390; clear A390; replace H := Option.bind_eq_some_iff.mp H; obtain ⟨t156, A400, H⟩ := H; replace H : ((seg_sign.f t156).bind fun t157 => ((seg_Turn.f kj2 t148 t149 t150 t151 t146 t147).bind fun t158 => ((seg_sign.f t158).bind fun t159 => (if t153 = 0 then (seg_Relate.j1 kj2 t153 t155 t157 t159 (t155 == 0) t144 t145 t146 t147 t148 t149 t150 t151) else (seg_Relate.j1 kj2 t153 t155 t157 t159 false t144 t145 t146 t147 t148 t149 t150 t151))))) = some r := H; have A40 := Aside0.mk A400; clear A400; replace H := Option.bind_eq_some_iff.mp H; obtain ⟨t157, A410, H⟩ := H; replace H : ((seg_Turn.f kj2 t148 t149 t150 t151 t146 t147).bind fun t158 => ((seg_sign.f t158).bind fun t159 => (if t153 = 0 then (seg_Relate.j1 kj2 t153 t155 t157 t159 (t155 == 0) t144 t145 t146 t147 t148 t149 t150 t151) else (seg_Relate.j1 kj2 t153 t155 t157 t159 false t144 t145 t146 t147 t148 t149 t150 t151)))) = some r := H; have A41 := Aside0.mk A410; clear A410; replace H := Option.bind_eq_some_iff.mp H; obtain ⟨t158, A420, H⟩ := H; replace H : ((seg_sign.f t158).bind fun t159 => (if t153 = 0 then (seg_Relate.j1 kj2 t153 t155 t157 t159 (t155 == 0) t144 t145 t146 t147 t148 t149 t150 t151) else (seg_Relate.j1 kj2 t153 t155 t157 t159 false t144 t145 t146 t147 t148 t149 t150 t151))) = some r := H; have A42 := Aside0.mk A420; clear A420; replace H := Option.bind_eq_some_iff.mp H; obtain ⟨t159, A430, H⟩ := H; replace H : (if t153 = 0 then (seg_Relate.j1 kj2 t153 t155 t157 t159 (t155 == 0) t144 t145 t146 t147 t148 t149 t150 t151) else (seg_Relate.j1 kj2 t153 t155 t157 t159 false t144 t145 t146 t147 t148 t149 t150 t151)) = some r := H; have A43 := Aside0.mk A430; clear A430; have HC44 := Aside0.mk H; clear H
    try go_wp2
    have n0_ := Aside0.mk (blk_drew BK138.out); have n1_ := Aside0.mk (blk_drew BK139.out); have n2_ := Aside0.mk (below_drew1 HB.out); clear BK138 BK139 HB; have BK138 := n0_; have BK139 := n1_; have HB := n2_; clear n0_ n1_ n2_; refine start_ (n := 12) (S := fun w' => w'.cell? ⟨gb138, 0, none⟩ = some (.int .i64 a0_0) ∧ w'.cell? ⟨gb138, 1, none⟩ = some (.int .i64 a0_1) ∧ w'.cell? ⟨gb138, 2, none⟩ = some (.int .i64 a0_2) ∧ w'.cell? ⟨gb138, 3, none⟩ = some (.int .i64 a0_3) ∧ w'.cell? ⟨gb139, 0, none⟩ = some (.int .i64 a1_0) ∧ w'.cell? ⟨gb139, 1, none⟩ = some (.int .i64 a1_1) ∧ w'.cell? ⟨gb139, 2, none⟩ = some (.int .i64 a1_2) ∧ w'.cell? ⟨gb139, 3, none⟩ = some (.int .i64 a1_3)) (ds := [10, 11]) #[F, F, F, F, F, F, F, F, F, F, F, F] (by kernel_rfl) rfl rfl ⟨(blk_cell BK138.out 0).trans rfl, (blk_cell BK138.out 1).trans rfl, (blk_cell BK138.out 2).trans rfl, (blk_cell BK138.out 3).trans rfl, (blk_cell BK139.out 0).trans rfl, (blk_cell BK139.out 1).trans rfl, (blk_cell BK139.out 2).trans rfl, (blk_cell BK139.out 3).trans rfl⟩ (fun hHeld => ?_); refine with_tabW seg_Relate.tab3 seg_Relate.bits3 (fun HT_ HW_ => ?_); generalize wc.drew = w45 at BK138 BK139 HB hHeld ⊢
    refine pure_ (i := 0) (N := some 34) (v := ?_) (a' := ?_) #[T, F, F, F, F, F, F, F, F, F, F, F] rfl rfl (any_of HT_.out (by kernel_rfl)) (fun _ _ _ h => h) (Or.inl ⟨by rfl, ?_⟩) ?_ ?_; rotate_left
    ·intro w'; go_simp; with_reducible rfl
    rotate_left
    ·go_simp
     rfl
    refine pure_ (i := 2) (N := some 36) (v := ?_) (a' := ?_) #[T, F, T, F, F, F, F, F, F, F, F, F] rfl rfl (any_of HT_.out (by kernel_rfl)) (fun _ _ _ h => h) (Or.inl ⟨by rfl, ?_⟩) ?_ ?_; rotate_left
    ·intro w'; go_simp; with_reducible rfl
    rotate_left
    ·go_simp
     rfl
    refine pure_ (i := 5) (N := some 39) (v := ?_) (a' := ?_) #[T, F, T, F, F, T, F, F, F, F, F, F] rfl rfl (any_of HT_.out (by kernel_rfl)) (fun _ _ _ h => h) (Or.inl ⟨by rfl, ?_⟩) ?_ ?_; rotate_left
    ·intro w'; go_simp; with_reducible rfl
    rotate_left
    ·go_simp
     rfl
    refine pure_ (i := 7) (N := some 41) (v := ?_) (a' := ?_) #[T, F, T, F, F, T, F, T, F, F, F, F] rfl rfl (any_of HT_.out (by kernel_rfl)) (fun _ _ _ h => h) (Or.inl ⟨by rfl, ?_⟩) ?_ ?_; rotate_left
    ·intro w'; go_simp; with_reducible rfl
    rotate_left
    ·go_simp
     rfl
    refine take_ (i := 1) (N := some 35) (v := ?_) (a' := ?_) #[T, T, T, F, F, T, F, T, F, F, F, F] rfl rfl (take_ofW HT_.out HW_.out (by kernel_rfl)) (fun _ _ _ h => h) (Or.inl ⟨by rfl, ?_⟩) hHeld ?_ ?_; rotate_left
    ·rintro w' ⟨s0, s1, s2, s3, s4, s5, s6, s7⟩; go_simp; with_reducible rfl
    rotate_left
    ·go_simp
     rfl
    refine take_ (i := 3) (N := some 37) (v := ?_) (a' := ?_) #[T, T, T, T, F, T, F, T, F, F, F, F] rfl rfl (take_ofW HT_.out HW_.out (by kernel_rfl)) (fun _ _ _ h => h) (Or.inl ⟨by rfl, ?_⟩) hHeld ?_ ?_; rotate_left
    ·rintro w' ⟨s0, s1, s2, s3, s4, s5, s6, s7⟩; go_simp; with_reducible rfl
    rotate_left
    ·go_simp
     rfl
    refine take_ (i := 6) (N := some 40) (v := ?_) (a' := ?_) #[T, T, T, T, F, T, T, T, F, F, F, F] rfl rfl (take_ofW HT_.out HW_.out (by kernel_rfl)) (fun _ _ _ h => h) (Or.inl ⟨by rfl, ?_⟩) hHeld ?_ ?_; rotate_left
    ·rintro w' ⟨s0, s1, s2, s3, s4, s5, s6, s7⟩; go_simp; with_reducible rfl
    rotate_left
    ·go_simp
     rfl
    refine take_ (i := 8) (N := some 42) (v := ?_) (a' := ?_) #[T, T, T, T, F, T, T, T, T, F, F, F] rfl rfl (take_ofW HT_.out HW_.out (by kernel_rfl)) (fun _ _ _ h => h) (Or.inl ⟨by rfl, ?_⟩) hHeld ?_ ?_; rotate_left
    ·rintro w' ⟨s0, s1, s2, s3, s4, s5, s6, s7⟩; go_simp; with_reducible rfl
    rotate_left
    ·go_simp
     rfl
    refine one_ (i := 4) (N := some 38) #[T, T, T, T, T, T, T, T, T, F, F, F] rfl rfl (one_of HT_.out (by kernel_rfl)) (by decide) (fun K hK => ?_); refine goes_ Try.func35 (by kernel_rfl) rfl #[.agg #[.int .i64 a0_0, .int .i64 a0_1], .agg #[.int .i64 a0_2, .int .i64 a0_3]] (by rfl) rfl rfl (by (try simp only [List.map_toArray, List.map_cons, List.map_nil]); first | done | rfl | (simp only [List.length_drop, List.length_take]; rfl)) ?_; with_reducible refine (seg_Of.calls a0_0 a0_1 a0_2 a0_3 t144 t145 t146 t147 _ A34.out).mono ?_; rintro e w46 ⟨rfl, hb⟩; refine ⟨_, rfl, ?_⟩; have n0_ := Aside0.mk (blk_below (bI BK138.out) hb); have n1_ := Aside0.mk (blk_below (bI BK139.out) hb); have n2_ := Aside0.mk (below_step (by repeat with_reducible first | exact HB.out | refine bC ?_ | refine below_set ?_ GE138.out | refine below_set ?_ GE139.out) hb); clear BK138 BK139 HB; have BK138 := n0_; have BK139 := n1_; have HB := n2_; clear n0_ n1_ n2_; (try clear hb); (try clear hb2); (try clear hk); (try clear hi); refine hK.out _ _ ⟨(blk_cell BK138.out 0).trans rfl, (blk_cell BK138.out 1).trans rfl, (blk_cell BK138.out 2).trans rfl, (blk_cell BK138.out 3).trans rfl, (blk_cell BK139.out 0).trans rfl, (blk_cell BK139.out 1).trans rfl, (blk_cell BK139.out 2).trans rfl, (blk_cell BK139.out 3).trans rfl⟩ (fun hHeld => ?_); clear hK K; refine norm_ (a' := ?_) ?_ ?_; rotate_left
    ·show Act.put _ (some 38) _ = _; go_simp; rfl
    refine one_ (i := 9) (N := some 43) #[T, T, T, T, T, T, T, T, T, T, F, F] rfl rfl (one_of HT_.out (by kernel_rfl)) (by decide) (fun K hK => ?_); refine goes_ Try.func35 (by kernel_rfl) rfl #[.agg #[.int .i64 a1_0, .int .i64 a1_1], .agg #[.int .i64 a1_2, .int .i64 a1_3]] (by rfl) rfl rfl (by (try simp only [List.map_toArray, List.map_cons, List.map_nil]); first | done | rfl | (simp only [List.length_drop, List.length_take]; rfl)) ?_; with_reducible refine (seg_Of.calls a1_0 a1_1 a1_2 a1_3 t148 t149 t150 t151 _ A35.out).mono ?_; rintro e w47 ⟨rfl, hb⟩; refine ⟨_, rfl, ?_⟩; have n0_ := Aside0.mk (blk_below (bI BK138.out) hb); have n1_ := Aside0.mk (blk_below (bI BK139.out) hb); have n2_ := Aside0.mk (below_step (by repeat with_reducible first | exact HB.out | refine bC ?_ | refine below_set ?_ GE138.out | refine below_set ?_ GE139.out) hb); clear BK138 BK139 HB; have BK138 := n0_; have BK139 := n1_; have HB := n2_; clear n0_ n1_ n2_; (try clear hb); (try clear hb2); (try clear hk); (try clear hi); refine hK.out _ _ ⟨(blk_cell BK138.out 0).trans rfl, (blk_cell BK138.out 1).trans rfl, (blk_cell BK138.out 2).trans rfl, (blk_cell BK138.out 3).trans rfl, (blk_cell BK139.out 0).trans rfl, (blk_cell BK139.out 1).trans rfl, (blk_cell BK139.out 2).trans rfl, (blk_cell BK139.out 3).trans rfl⟩ (fun hHeld => ?_); clear hK K; refine norm_ (a' := ?_) ?_ ?_; rotate_left
    ·show Act.put _ (some 43) _ = _; go_simp; rfl
    refine last_ (i := 10) (N := none) #[T, T, T, T, T, T, T, T, T, T, T, F] rfl rfl (one_of HT_.out (by kernel_rfl)) (by decide) (fun K hK => ?_); have hs48 : w47.cell? ⟨gb138, 0, none⟩ = some (.int .i64 a0_0) := (blk_cell BK138.out 0).trans rfl; have hfs48 := blk_frozen BK138.out 0; have hns48_1 := NB139_138.out; have hms48_1 := NB138_139.out; have hs49 : w47.cell? ⟨gb138, 1, none⟩ = some (.int .i64 a0_1) := (blk_cell BK138.out 1).trans rfl; have hfs49 := blk_frozen BK138.out 1; have hns49_1 := NB139_138.out; have hms49_1 := NB138_139.out; have hs50 : w47.cell? ⟨gb138, 2, none⟩ = some (.int .i64 a0_2) := (blk_cell BK138.out 2).trans rfl; have hfs50 := blk_frozen BK138.out 2; have hns50_1 := NB139_138.out; have hms50_1 := NB138_139.out; have hs51 : w47.cell? ⟨gb138, 3, none⟩ = some (.int .i64 a0_3) := (blk_cell BK138.out 3).trans rfl; have hfs51 := blk_frozen BK138.out 3; have hns51_1 := NB139_138.out; have hms51_1 := NB138_139.out; refine skip_ (w1 := ?_) (by rfl) rfl ?_ ?_; rotate_left
    ·go_simp
     rfl
    refine hK.out _ _ ?_; clear hK K; refine last_ (i := 11) (N := none) #[T, T, T, T, T, T, T, T, T, T, T, T] rfl rfl (one_of HT_.out (by kernel_rfl)) (by decide) (fun K hK => ?_); have hs52 : w47.cell? ⟨gb139, 0, none⟩ = some (.int .i64 a1_0) := (blk_cell BK139.out 0).trans rfl; have hfs52 := blk_frozen BK139.out 0; have hns52_0 := NB138_139.out; have hms52_0 := NB139_138.out; have hs53 : w47.cell? ⟨gb139, 1, none⟩ = some (.int .i64 a1_1) := (blk_cell BK139.out 1).trans rfl; have hfs53 := blk_frozen BK139.out 1; have hns53_0 := NB138_139.out; have hms53_0 := NB139_138.out; have hs54 : w47.cell? ⟨gb139, 2, none⟩ = some (.int .i64 a1_2) := (blk_cell BK139.out 2).trans rfl; have hfs54 := blk_frozen BK139.out 2; have hns54_0 := NB138_139.out; have hms54_0 := NB139_138.out; have hs55 : w47.cell? ⟨gb139, 3, none⟩ = some (.int .i64 a1_3) := (blk_cell BK139.out 3).trans rfl; have hfs55 := blk_frozen BK139.out 3; have hns55_0 := NB138_139.out; have hms55_0 := NB139_138.out; refine skip_ (w1 := ?_) (by rfl) rfl ?_ ?_; rotate_left
    ·go_simp
     rfl
    refine hK.out _ _ ?_; clear hK K; refine done_ (done_of HT_.out (by kernel_rfl)) ?_
    try go_wp2
    have n0_ : Aside0 (((((((((w47.setCell ⟨gb138, 0, none⟩ (.int .i64 t144)).setCell ⟨gb138, 1, none⟩ (.int .i64 t145)).setCell ⟨gb138, 2, none⟩ (.int .i64 t146)).setCell ⟨gb138, 3, none⟩ (.int .i64 t147)).setCell ⟨gb139, 0, none⟩ (.int .i64 t148)).setCell ⟨gb139, 1, none⟩ (.int .i64 t149)).setCell ⟨gb139, 2, none⟩ (.int .i64 t150)).setCell ⟨gb139, 3, none⟩ (.int .i64 t151)).heap[gb138]? = some (.cells #[.int .i64 t144, .int .i64 t145, .int .i64 t146, .int .i64 t147] 45 (0, 0))) := ⟨by refine bI ?_; refine blk_far ?_ NB138_139.out _; refine bI ?_; refine blk_far ?_ NB138_139.out _; refine bI ?_; refine blk_far ?_ NB138_139.out _; refine bI ?_; refine blk_far ?_ NB138_139.out _; refine bI ?_; refine blk_put (cs := #[.int .i64 t144, .int .i64 t145, .int .i64 t146, .int .i64 a0_3]) ?_ 3 _ rfl; refine bI ?_; refine blk_put (cs := #[.int .i64 t144, .int .i64 t145, .int .i64 a0_2, .int .i64 a0_3]) ?_ 2 _ rfl; refine bI ?_; refine blk_put (cs := #[.int .i64 t144, .int .i64 a0_1, .int .i64 a0_2, .int .i64 a0_3]) ?_ 1 _ rfl; refine bI ?_; refine blk_put (cs := #[.int .i64 a0_0, .int .i64 a0_1, .int .i64 a0_2, .int .i64 a0_3]) ?_ 0 _ rfl; refine bI ?_; exact BK138.out⟩; have n1_ : Aside0 (((((((((w47.setCell ⟨gb138, 0, none⟩ (.int .i64 t144)).setCell ⟨gb138, 1, none⟩ (.int .i64 t145)).setCell ⟨gb138, 2, none⟩ (.int .i64 t146)).setCell ⟨gb138, 3, none⟩ (.int .i64 t147)).setCell ⟨gb139, 0, none⟩ (.int .i64 t148)).setCell ⟨gb139, 1, none⟩ (.int .i64 t149)).setCell ⟨gb139, 2, none⟩ (.int .i64 t150)).setCell ⟨gb139, 3, none⟩ (.int .i64 t151)).heap[gb139]? = some (.cells #[.int .i64 t148, .int .i64 t149, .int .i64 t150, .int .i64 t151] 45 (0, 0))) := ⟨by refine bI ?_; refine blk_put (cs := #[.int .i64 t148, .int .i64 t149, .int .i64 t150, .int .i64 a1_3]) ?_ 3 _ rfl; refine bI ?_; refine blk_put (cs := #[.int .i64 t148, .int .i64 t149, .int .i64 a1_2, .int .i64 a1_3]) ?_ 2 _ rfl; refine bI ?_; refine blk_put (cs := #[.int .i64 t148, .int .i64 a1_1, .int .i64 a1_2, .int .i64 a1_3]) ?_ 1 _ rfl; refine bI ?_; refine blk_put (cs := #[.int .i64 a1_0, .int .i64 a1_1, .int .i64 a1_2, .int .i64 a1_3]) ?_ 0 _ rfl; refine bI ?_; refine blk_far ?_ NB139_138.out _; refine bI ?_; refine blk_far ?_ NB139_138.out _; refine bI ?_; refine blk_far ?_ NB139_138.out _; refine bI ?_; refine blk_far ?_ NB139_138.out _; refine bI ?_; exact BK139.out⟩; have n2_ : Aside0 (Below w.heap.size w ((((((((w47.setCell ⟨gb138, 0, none⟩ (.int .i64 t144)).setCell ⟨gb138, 1, none⟩ (.int .i64 t145)).setCell ⟨gb138, 2, none⟩ (.int .i64 t146)).setCell ⟨gb138, 3, none⟩ (.int .i64 t147)).setCell ⟨gb139, 0, none⟩ (.int .i64 t148)).setCell ⟨gb139, 1, none⟩ (.int .i64 t149)).setCell ⟨gb139, 2, none⟩ (.int .i64 t150)).setCell ⟨gb139, 3, none⟩ (.int .i64 t151))) := ⟨by repeat with_reducible first | exact HB.out | refine bC ?_ | refine below_set ?_ GE138.out | refine below_set ?_ GE139.out⟩; (try clear BK138); (try clear BK139); (try clear HB); generalize ((((((((w47.setCell ⟨gb138, 0, none⟩ (.int .i64 t144)).setCell ⟨gb138, 1, none⟩ (.int .i64 t145)).setCell ⟨gb138, 2, none⟩ (.int .i64 t146)).setCell ⟨gb138, 3, none⟩ (.int .i64 t147)).setCell ⟨gb139, 0, none⟩ (.int .i64 t148)).setCell ⟨gb139, 1, none⟩ (.int .i64 t149)).setCell ⟨gb139, 2, none⟩ (.int .i64 t150)).setCell ⟨gb139, 3, none⟩ (.int .i64 t151)) = w56 at n0_ n1_ n2_ ⊢
    have BK138 := n0_; have BK139 := n1_; have HB := n2_; clear n0_ n1_ n2_; have n0_ := Aside0.mk (blk_drew BK138.out); have n1_ := Aside0.mk (blk_drew BK139.out); have n2_ := Aside0.mk (below_drew1 HB.out); clear BK138 BK139 HB; have BK138 := n0_; have BK139 := n1_; have HB := n2_; clear n0_ n1_ n2_; refine start_ (n := 18) (S := fun w' => w'.cell? ⟨gb138, 0, none⟩ = some (.int .i64 t144) ∧ w'.cell? ⟨gb138, 1, none⟩ = some (.int .i64 t145) ∧ w'.cell? ⟨gb138, 2, none⟩ = some (.int .i64 t146) ∧ w'.cell? ⟨gb138, 3, none⟩ = some (.int .i64 t147) ∧ w'.cell? ⟨gb139, 0, none⟩ = some (.int .i64 t148) ∧ w'.cell? ⟨gb139, 1, none⟩ = some (.int .i64 t149) ∧ w'.cell? ⟨gb139, 2, none⟩ = some (.int .i64 t150) ∧ w'.cell? ⟨gb139, 3, none⟩ = some (.int .i64 t151)) (ds := []) #[F, F, F, F, F, F, F, F, F, F, F, F, F, F, F, F, F, F] (by kernel_rfl) rfl rfl ⟨(blk_cell BK138.out 0).trans rfl, (blk_cell BK138.out 1).trans rfl, (blk_cell BK138.out 2).trans rfl, (blk_cell BK138.out 3).trans rfl, (blk_cell BK139.out 0).trans rfl, (blk_cell BK139.out 1).trans rfl, (blk_cell BK139.out 2).trans rfl, (blk_cell BK139.out 3).trans rfl⟩ (fun hHeld => ?_); refine with_tabW seg_Relate.tab4 seg_Relate.bits4 (fun HT_ HW_ => ?_); generalize w56.drew = w57 at BK138 BK139 HB hHeld ⊢
    refine pure_ (i := 0) (N := some 44) (v := ?_) (a' := ?_) #[T, F, F, F, F, F, F, F, F, F, F, F, F, F, F, F, F, F] rfl rfl (any_of HT_.out (by kernel_rfl)) (fun _ _ _ h => h) (Or.inl ⟨by rfl, ?_⟩) ?_ ?_; rotate_left
    ·intro w'; go_simp; with_reducible rfl
    rotate_left
    ·go_simp
     rfl
    refine pure_ (i := 2) (N := some 46) (v := ?_) (a' := ?_) #[T, F, T, F, F, F, F, F, F, F, F, F, F, F, F, F, F, F] rfl rfl (any_of HT_.out (by kernel_rfl)) (fun _ _ _ h => h) (Or.inl ⟨by rfl, ?_⟩) ?_ ?_; rotate_left
    ·intro w'; go_simp; with_reducible rfl
    rotate_left
    ·go_simp
     rfl
    refine pure_ (i := 4) (N := some 48) (v := ?_) (a' := ?_) #[T, F, T, F, T, F, F, F, F, F, F, F, F, F, F, F, F, F] rfl rfl (any_of HT_.out (by kernel_rfl)) (fun _ _ _ h => h) (Or.inl ⟨by rfl, ?_⟩) ?_ ?_; rotate_left
    ·intro w'; go_simp; with_reducible rfl
    rotate_left
    ·go_simp
     rfl
    refine pure_ (i := 8) (N := some 52) (v := ?_) (a' := ?_) #[T, F, T, F, T, F, F, F, T, F, F, F, F, F, F, F, F, F] rfl rfl (any_of HT_.out (by kernel_rfl)) (fun _ _ _ h => h) (Or.inl ⟨by rfl, ?_⟩) ?_ ?_; rotate_left
    ·intro w'; go_simp; with_reducible rfl
    rotate_left
    ·go_simp
     rfl
    refine pure_ (i := 10) (N := some 54) (v := ?_) (a' := ?_) #[T, F, T, F, T, F, F, F, T, F, T, F, F, F, F, F, F, F] rfl rfl (any_of HT_.out (by kernel_rfl)) (fun _ _ _ h => h) (Or.inl ⟨by rfl, ?_⟩) ?_ ?_; rotate_left
    ·intro w'; go_simp; with_reducible rfl
    rotate_left
    ·go_simp
     rfl
    refine pure_ (i := 12) (N := some 56) (v := ?_) (a' := ?_) #[T, F, T, F, T, F, F, F, T, F, T, F, T, F, F, F, F, F] rfl rfl (any_of HT_.out (by kernel_rfl)) (fun _ _ _ h => h) (Or.inl ⟨by rfl, ?_⟩) ?_ ?_; rotate_left
    ·intro w'; go_simp; with_reducible rfl
    rotate_left
    ·go_simp
     rfl
    refine take_ (i := 1) (N := some 45) (v := ?_) (a' := ?_) #[T, T, T, F, T, F, F, F, T, F, T, F, T, F, F, F, F, F] rfl rfl (take_ofW HT_.out HW_.out (by kernel_rfl)) (fun _ _ _ h => h) (Or.inl ⟨by rfl, ?_⟩) hHeld ?_ ?_; rotate_left
    ·rintro w' ⟨s0, s1, s2, s3, s4, s5, s6, s7⟩; go_simp; with_reducible rfl
    rotate_left
    ·go_simp
     rfl
    refine take_ (i := 3) (N := some 47) (v := ?_) (a' := ?_) #[T, T, T, T, T, F, F, F, T, F, T, F, T, F, F, F, F, F] rfl rfl (take_ofW HT_.out HW_.out (by kernel_rfl)) (fun _ _ _ h => h) (Or.inl ⟨by rfl, ?_⟩) hHeld ?_ ?_; rotate_left
    ·rintro w' ⟨s0, s1, s2, s3, s4, s5, s6, s7⟩; go_simp; with_reducible rfl
    rotate_left
    ·go_simp
     rfl
    refine take_ (i := 5) (N := some 49) (v := ?_) (a' := ?_) #[T, T, T, T, T, T, F, F, T, F, T, F, T, F, F, F, F, F] rfl rfl (take_ofW HT_.out HW_.out (by kernel_rfl)) (fun _ _ _ h => h) (Or.inl ⟨by rfl, ?_⟩) hHeld ?_ ?_; rotate_left
    ·rintro w' ⟨s0, s1, s2, s3, s4, s5, s6, s7⟩; go_simp; with_reducible rfl
    rotate_left
    ·go_simp
     rfl
    refine take_ (i := 9) (N := some 53) (v := ?_) (a' := ?_) #[T, T, T, T, T, T, F, F, T, T, T, F, T, F, F, F, F, F] rfl rfl (take_ofW HT_.out HW_.out (by kernel_rfl)) (fun _ _ _ h => h) (Or.inl ⟨by rfl, ?_⟩) hHeld ?_ ?_; rotate_left
    ·rintro w' ⟨s0, s1, s2, s3, s4, s5, s6, s7⟩; go_simp; with_reducible rfl
    rotate_left
    ·go_simp
     rfl
    refine take_ (i := 11) (N := some 55) (v := ?_) (a' := ?_) #[T, T, T, T, T, T, F, F, T, T, T, T, T, F, F, F, F, F] rfl rfl (take_ofW HT_.out HW_.out (by kernel_rfl)) (fun _ _ _ h => h) (Or.inl ⟨by rfl, ?_⟩) hHeld ?_ ?_; rotate_left
    ·rintro w' ⟨s0, s1, s2, s3, s4, s5, s6, s7⟩; go_simp; with_reducible rfl
    rotate_left
    ·go_simp
     rfl
    refine take_ (i := 13) (N := some 57) (v := ?_) (a' := ?_) #[T, T, T, T, T, T, F, F, T, T, T, T, T, T, F, F, F, F] rfl rfl (take_ofW HT_.out HW_.out (by kernel_rfl)) (fun _ _ _ h => h) (Or.inl ⟨by rfl, ?_⟩) hHeld ?_ ?_; rotate_left
    ·rintro w' ⟨s0, s1, s2, s3, s4, s5, s6, s7⟩; go_simp; with_reducible rfl
    rotate_left
    ·go_simp
     rfl
    refine one_ (i := 6) (N := some 50) #[T, T, T, T, T, T, T, F, T, T, T, T, T, T, F, F, F, F] rfl rfl (one_of HT_.out (by kernel_rfl)) (by decide) (fun K hK => ?_); refine goes_ Try.func52 (by kernel_rfl) rfl #[.agg #[.int .i64 t144, .int .i64 t145], .agg #[.int .i64 t146, .int .i64 t147], .agg #[.int .i64 t148, .int .i64 t149]] (by rfl) rfl rfl (by (try simp only [List.map_toArray, List.map_cons, List.map_nil]); first | done | rfl | (simp only [List.length_drop, List.length_take]; rfl)) ?_; with_reducible refine (seg_Turn.calls kj2 t144 t145 t146 t147 t148 t149 t152 _ A36.out).mono ?_; rintro e w58 ⟨rfl, hb⟩; refine ⟨_, rfl, ?_⟩; have n0_ := Aside0.mk (blk_below (bI BK138.out) hb); have n1_ := Aside0.mk (blk_below (bI BK139.out) hb); have n2_ := Aside0.mk (below_step (by repeat with_reducible first | exact HB.out | refine bC ?_ | refine below_set ?_ GE138.out | refine below_set ?_ GE139.out) hb); clear BK138 BK139 HB; have BK138 := n0_; have BK139 := n1_; have HB := n2_; clear n0_ n1_ n2_; (try clear hb); (try clear hb2); (try clear hk); (try clear hi); refine hK.out _ _ ⟨(blk_cell BK138.out 0).trans rfl, (blk_cell BK138.out 1).trans rfl, (blk_cell BK138.out 2).trans rfl, (blk_cell BK138.out 3).trans rfl, (blk_cell BK139.out 0).trans rfl, (blk_cell BK139.out 1).trans rfl, (blk_cell BK139.out 2).trans rfl, (blk_cell BK139.out 3).trans rfl⟩ (fun hHeld => ?_); clear hK K; refine norm_ (a' := ?_) ?_ ?_; rotate_left
    ·show Act.put _ (some 50) _ = _; go_simp; rfl
    refine one_ (i := 7) (N := some 51) #[T, T, T, T, T, T, T, T, T, T, T, T, T, T, F, F, F, F] rfl rfl (one_of HT_.out (by kernel_rfl)) (by decide) (fun K hK => ?_); refine goes_ Try.func51 (by kernel_rfl) rfl #[.int .i64 t152] (by rfl) rfl rfl (by (try simp only [List.map_toArray, List.map_cons, List.map_nil]); first | done | rfl | (simp only [List.length_drop, List.length_take]; rfl)) ?_; with_reducible refine (seg_sign.calls t152 t153 _ A37.out).mono ?_; rintro e w59 ⟨rfl, hb⟩; refine ⟨_, rfl, ?_⟩; have n0_ := Aside0.mk (blk_below (bI BK138.out) hb); have n1_ := Aside0.mk (blk_below (bI BK139.out) hb); have n2_ := Aside0.mk (below_step (by repeat with_reducible first | exact HB.out | refine bC ?_ | refine below_set ?_ GE138.out | refine below_set ?_ GE139.out) hb); clear BK138 BK139 HB; have BK138 := n0_; have BK139 := n1_; have HB := n2_; clear n0_ n1_ n2_; (try clear hb); (try clear hb2); (try clear hk); (try clear hi); refine hK.out _ _ ⟨(blk_cell BK138.out 0).trans rfl, (blk_cell BK138.out 1).trans rfl, (blk_cell BK138.out 2).trans rfl, (blk_cell BK138.out 3).trans rfl, (blk_cell BK139.out 0).trans rfl, (blk_cell BK139.out 1).trans rfl, (blk_cell BK139.out 2).trans rfl, (blk_cell BK139.out 3).trans rfl⟩ (fun hHeld => ?_); clear hK K; refine norm_ (a' := ?_) ?_ ?_; rotate_left
    ·show Act.put _ (some 51) _ = _; go_simp; rfl
    refine one_ (i := 14) (N := some 58) #[T, T, T, T, T, T, T, T, T, T, T, T, T, T, T, F, F, F] rfl rfl (one_of HT_.out (by kernel_rfl)) (by decide) (fun K hK => ?_); refine goes_ Try.func52 (by kernel_rfl) rfl #[.agg #[.int .i64 t144, .int .i64 t145], .agg #[.int .i64 t146, .int .i64 t147], .agg #[.int .i64 t150, .int .i64 t151]] (by rfl) rfl rfl (by (try simp only [List.map_toArray, List.map_cons, List.map_nil]); first | done | rfl | (simp only [List.length_drop, List.length_take]; rfl)) ?_; with_reducible refine (seg_Turn.calls kj2 t144 t145 t146 t147 t150 t151 t154 _ A38.out).mono ?_; rintro e w60 ⟨rfl, hb⟩; refine ⟨_, rfl, ?_⟩; have n0_ := Aside0.mk (blk_below (bI BK138.out) hb); have n1_ := Aside0.mk (blk_below (bI BK139.out) hb); have n2_ := Aside0.mk (below_step (by repeat with_reducible first | exact HB.out | refine bC ?_ | refine below_set ?_ GE138.out | refine below_set ?_ GE139.out) hb); clear BK138 BK139 HB; have BK138 := n0_; have BK139 := n1_; have HB := n2_; clear n0_ n1_ n2_; (try clear hb); (try clear hb2); (try clear hk); (try clear hi); refine hK.out _ _ ⟨(blk_cell BK138.out 0).trans rfl, (blk_cell BK138.out 1).trans rfl, (blk_cell BK138.out 2).trans rfl, (blk_cell BK138.out 3).trans rfl, (blk_cell BK139.out 0).trans rfl, (blk_cell BK139.out 1).trans rfl, (blk_cell BK139.out 2).trans rfl, (blk_cell BK139.out 3).trans rfl⟩ (fun hHeld => ?_); clear hK K; refine norm_ (a' := ?_) ?_ ?_; rotate_left
    ·show Act.put _ (some 58) _ = _; go_simp; rfl
    refine one_ (i := 15) (N := some 59) #[T, T, T, T, T, T, T, T, T, T, T, T, T, T, T, T, F, F] rfl rfl (one_of HT_.out (by kernel_rfl)) (by decide) (fun K hK => ?_); refine goes_ Try.func51 (by kernel_rfl) rfl #[.int .i64 t154] (by rfl) rfl rfl (by (try simp only [List.map_toArray, List.map_cons, List.map_nil]); first | done | rfl | (simp only [List.length_drop, List.length_take]; rfl)) ?_; with_reducible refine (seg_sign.calls t154 t155 _ A39.out).mono ?_; rintro e w61 ⟨rfl, hb⟩; refine ⟨_, rfl, ?_⟩; have n0_ := Aside0.mk (blk_below (bI BK138.out) hb); have n1_ := Aside0.mk (blk_below (bI BK139.out) hb); have n2_ := Aside0.mk (below_step (by repeat with_reducible first | exact HB.out | refine bC ?_ | refine below_set ?_ GE138.out | refine below_set ?_ GE139.out) hb); clear BK138 BK139 HB; have BK138 := n0_; have BK139 := n1_; have HB := n2_; clear n0_ n1_ n2_; (try clear hb); (try clear hb2); (try clear hk); (try clear hi); refine hK.out _ _ ⟨(blk_cell BK138.out 0).trans rfl, (blk_cell BK138.out 1).trans rfl, (blk_cell BK138.out 2).trans rfl, (blk_cell BK138.out 3).trans rfl, (blk_cell BK139.out 0).trans rfl, (blk_cell BK139.out 1).trans rfl, (blk_cell BK139.out 2).trans rfl, (blk_cell BK139.out 3).trans rfl⟩ (fun hHeld => ?_); clear hK K; refine norm_ (a' := ?_) ?_ ?_; rotate_left
    ·show Act.put _ (some 59) _ = _; go_simp; rfl
    refine pure_ (i := 16) (N := some 5) (v := ?_) (a' := ?_) #[T, T, T, T, T, T, T, T, T, T, T, T, T, T, T, T, T, F] rfl rfl (any_of HT_.out (by kernel_rfl)) (fun _ _ _ h => h) (Or.inl ⟨by rfl, ?_⟩) ?_ ?_; rotate_left
    ·intro w'; go_simp; with_reducible rfl
    rotate_left
    ·go_simp
     rfl
    refine pure_ (i := 17) (N := some 6) (v := ?_) (a' := ?_) #[T, T, T, T, T, T, T, T, T, T, T, T, T, T, T, T, T, T] rfl rfl (any_of HT_.out (by kernel_rfl)) (fun _ _ _ h => h) (Or.inl ⟨by rfl, ?_⟩) ?_ ?_; rotate_left
    ·intro w'; go_simp; with_reducible rfl
    rotate_left
    ·go_simp
     rfl
    refine done_ (done_of HT_.out (by kernel_rfl)) ?_
    try go_wp2
    have n0_ := Aside0.mk (blk_drew BK138.out); have n1_ := Aside0.mk (blk_drew BK139.out); have n2_ := Aside0.mk (below_drew1 HB.out); clear BK138 BK139 HB; have BK138 := n0_; have BK139 := n1_; have HB := n2_; clear n0_ n1_ n2_; refine start_ (n := 18) (S := fun w' => w'.cell? ⟨gb139, 0, none⟩ = some (.int .i64 t148) ∧ w'.cell? ⟨gb139, 1, none⟩ = some (.int .i64 t149) ∧ w'.cell? ⟨gb139, 2, none⟩ = some (.int .i64 t150) ∧ w'.cell? ⟨gb139, 3, none⟩ = some (.int .i64 t151) ∧ w'.cell? ⟨gb138, 0, none⟩ = some (.int .i64 t144) ∧ w'.cell? ⟨gb138, 1, none⟩ = some (.int .i64 t145) ∧ w'.cell? ⟨gb138, 2, none⟩ = some (.int .i64 t146) ∧ w'.cell? ⟨gb138, 3, none⟩ = some (.int .i64 t147)) (ds := []) #[F, F, F, F, F, F, F, F, F, F, F, F, F, F, F, F, F, F] (by kernel_rfl) rfl rfl ⟨(blk_cell BK139.out 0).trans rfl, (blk_cell BK139.out 1).trans rfl, (blk_cell BK139.out 2).trans rfl, (blk_cell BK139.out 3).trans rfl, (blk_cell BK138.out 0).trans rfl, (blk_cell BK138.out 1).trans rfl, (blk_cell BK138.out 2).trans rfl, (blk_cell BK138.out 3).trans rfl⟩ (fun hHeld => ?_); refine with_tabW seg_Relate.tab5 seg_Relate.bits5 (fun HT_ HW_ => ?_); generalize w61.drew = w62 at BK138 BK139 HB hHeld ⊢
    refine pure_ (i := 0) (N := some 60) (v := ?_) (a' := ?_) #[T, F, F, F, F, F, F, F, F, F, F, F, F, F, F, F, F, F] rfl rfl (any_of HT_.out (by kernel_rfl)) (fun _ _ _ h => h) (Or.inl ⟨by rfl, ?_⟩) ?_ ?_; rotate_left
    ·intro w'; go_simp; with_reducible rfl
    rotate_left
    ·go_simp
     rfl
    refine pure_ (i := 2) (N := some 62) (v := ?_) (a' := ?_) #[T, F, T, F, F, F, F, F, F, F, F, F, F, F, F, F, F, F] rfl rfl (any_of HT_.out (by kernel_rfl)) (fun _ _ _ h => h) (Or.inl ⟨by rfl, ?_⟩) ?_ ?_; rotate_left
    ·intro w'; go_simp; with_reducible rfl
    rotate_left
    ·go_simp
     rfl
    refine pure_ (i := 4) (N := some 64) (v := ?_) (a' := ?_) #[T, F, T, F, T, F, F, F, F, F, F, F, F, F, F, F, F, F] rfl rfl (any_of HT_.out (by kernel_rfl)) (fun _ _ _ h => h) (Or.inl ⟨by rfl, ?_⟩) ?_ ?_; rotate_left
    ·intro w'; go_simp; with_reducible rfl
    rotate_left
    ·go_simp
     rfl
    refine pure_ (i := 8) (N := some 68) (v := ?_) (a' := ?_) #[T, F, T, F, T, F, F, F, T, F, F, F, F, F, F, F, F, F] rfl rfl (any_of HT_.out (by kernel_rfl)) (fun _ _ _ h => h) (Or.inl ⟨by rfl, ?_⟩) ?_ ?_; rotate_left
    ·intro w'; go_simp; with_reducible rfl
    rotate_left
    ·go_simp
     rfl
    refine pure_ (i := 10) (N := some 70) (v := ?_) (a' := ?_) #[T, F, T, F, T, F, F, F, T, F, T, F, F, F, F, F, F, F] rfl rfl (any_of HT_.out (by kernel_rfl)) (fun _ _ _ h => h) (Or.inl ⟨by rfl, ?_⟩) ?_ ?_; rotate_left
    ·intro w'; go_simp; with_reducible rfl
    rotate_left
    ·go_simp
     rfl
    refine pure_ (i := 12) (N := some 72) (v := ?_) (a' := ?_) #[T, F, T, F, T, F, F, F, T, F, T, F, T, F, F, F, F, F] rfl rfl (any_of HT_.out (by kernel_rfl)) (fun _ _ _ h => h) (Or.inl ⟨by rfl, ?_⟩) ?_ ?_; rotate_left
    ·intro w'; go_simp; with_reducible rfl
    rotate_left
    ·go_simp
     rfl
    refine take_ (i := 1) (N := some 61) (v := ?_) (a' := ?_) #[T, T, T, F, T, F, F, F, T, F, T, F, T, F, F, F, F, F] rfl rfl (take_ofW HT_.out HW_.out (by kernel_rfl)) (fun _ _ _ h => h) (Or.inl ⟨by rfl, ?_⟩) hHeld ?_ ?_; rotate_left
    ·rintro w' ⟨s0, s1, s2, s3, s4, s5, s6, s7⟩; go_simp; with_reducible rfl
    rotate_left
    ·go_simp
     rfl
    refine take_ (i := 3) (N := some 63) (v := ?_) (a' := ?_) #[T, T, T, T, T, F, F, F, T, F, T, F, T, F, F, F, F, F] rfl rfl (take_ofW HT_.out HW_.out (by kernel_rfl)) (fun _ _ _ h => h) (Or.inl ⟨by rfl, ?_⟩) hHeld ?_ ?_; rotate_left
    ·rintro w' ⟨s0, s1, s2, s3, s4, s5, s6, s7⟩; go_simp; with_reducible rfl
    rotate_left
    ·go_simp
     rfl
    refine take_ (i := 5) (N := some 65) (v := ?_) (a' := ?_) #[T, T, T, T, T, T, F, F, T, F, T, F, T, F, F, F, F, F] rfl rfl (take_ofW HT_.out HW_.out (by kernel_rfl)) (fun _ _ _ h => h) (Or.inl ⟨by rfl, ?_⟩) hHeld ?_ ?_; rotate_left
    ·rintro w' ⟨s0, s1, s2, s3, s4, s5, s6, s7⟩; go_simp; with_reducible rfl
    rotate_left
    ·go_simp
     rfl
    refine take_ (i := 9) (N := some 69) (v := ?_) (a' := ?_) #[T, T, T, T, T, T, F, F, T, T, T, F, T, F, F, F, F, F] rfl rfl (take_ofW HT_.out HW_.out (by kernel_rfl)) (fun _ _ _ h => h) (Or.inl ⟨by rfl, ?_⟩) hHeld ?_ ?_; rotate_left
    ·rintro w' ⟨s0, s1, s2, s3, s4, s5, s6, s7⟩; go_simp; with_reducible rfl
    rotate_left
    ·go_simp
     rfl
    refine take_ (i := 11) (N := some 71) (v := ?_) (a' := ?_) #[T, T, T, T, T, T, F, F, T, T, T, T, T, F, F, F, F, F] rfl rfl (take_ofW HT_.out HW_.out (by kernel_rfl)) (fun _ _ _ h => h) (Or.inl ⟨by rfl, ?_⟩) hHeld ?_ ?_; rotate_left
    ·rintro w' ⟨s0, s1, s2, s3, s4, s5, s6, s7⟩; go_simp; with_reducible rfl
    rotate_left
    ·go_simp
     rfl
    refine take_ (i := 13) (N := some 73) (v := ?_) (a' := ?_) #[T, T, T, T, T, T, F, F, T, T, T, T, T, T, F, F, F, F] rfl rfl (take_ofW HT_.out HW_.out (by kernel_rfl)) (fun _ _ _ h => h) (Or.inl ⟨by rfl, ?_⟩) hHeld ?_ ?_; rotate_left
    ·rintro w' ⟨s0, s1, s2, s3, s4, s5, s6, s7⟩; go_simp; with_reducible rfl
    rotate_left
    ·go_simp
     rfl
    refine one_ (i := 6) (N := some 66) #[T, T, T, T, T, T, T, F, T, T, T, T, T, T, F, F, F, F] rfl rfl (one_of HT_.out (by kernel_rfl)) (by decide) (fun K hK => ?_); refine goes_ Try.func52 (by kernel_rfl) rfl #[.agg #[.int .i64 t148, .int .i64 t149], .agg #[.int .i64 t150, .int .i64 t151], .agg #[.int .i64 t144, .int .i64 t145]] (by rfl) rfl rfl (by (try simp only [List.map_toArray, List.map_cons, List.map_nil]); first | done | rfl | (simp only [List.length_drop, List.length_take]; rfl)) ?_; with_reducible refine (seg_Turn.calls kj2 t148 t149 t150 t151 t144 t145 t156 _ A40.out).mono ?_; rintro e w63 ⟨rfl, hb⟩; refine ⟨_, rfl, ?_⟩; have n0_ := Aside0.mk (blk_below (bI BK138.out) hb); have n1_ := Aside0.mk (blk_below (bI BK139.out) hb); have n2_ := Aside0.mk (below_step (by repeat with_reducible first | exact HB.out | refine bC ?_ | refine below_set ?_ GE138.out | refine below_set ?_ GE139.out) hb); clear BK138 BK139 HB; have BK138 := n0_; have BK139 := n1_; have HB := n2_; clear n0_ n1_ n2_; (try clear hb); (try clear hb2); (try clear hk); (try clear hi); refine hK.out _ _ ⟨(blk_cell BK139.out 0).trans rfl, (blk_cell BK139.out 1).trans rfl, (blk_cell BK139.out 2).trans rfl, (blk_cell BK139.out 3).trans rfl, (blk_cell BK138.out 0).trans rfl, (blk_cell BK138.out 1).trans rfl, (blk_cell BK138.out 2).trans rfl, (blk_cell BK138.out 3).trans rfl⟩ (fun hHeld => ?_); clear hK K; refine norm_ (a' := ?_) ?_ ?_; rotate_left
    ·show Act.put _ (some 66) _ = _; go_simp; rfl
    refine one_ (i := 7) (N := some 67) #[T, T, T, T, T, T, T, T, T, T, T, T, T, T, F, F, F, F] rfl rfl (one_of HT_.out (by kernel_rfl)) (by decide) (fun K hK => ?_); refine goes_ Try.func51 (by kernel_rfl) rfl #[.int .i64 t156] (by rfl) rfl rfl (by (try simp only [List.map_toArray, List.map_cons, List.map_nil]); first | done | rfl | (simp only [List.length_drop, List.length_take]; rfl)) ?_; with_reducible refine (seg_sign.calls t156 t157 _ A41.out).mono ?_; rintro e w64 ⟨rfl, hb⟩; refine ⟨_, rfl, ?_⟩; have n0_ := Aside0.mk (blk_below (bI BK138.out) hb); have n1_ := Aside0.mk (blk_below (bI BK139.out) hb); have n2_ := Aside0.mk (below_step (by repeat with_reducible first | exact HB.out | refine bC ?_ | refine below_set ?_ GE138.out | refine below_set ?_ GE139.out) hb); clear BK138 BK139 HB; have BK138 := n0_; have BK139 := n1_; have HB := n2_; clear n0_ n1_ n2_; (try clear hb); (try clear hb2); (try clear hk); (try clear hi); refine hK.out _ _ ⟨(blk_cell BK139.out 0).trans rfl, (blk_cell BK139.out 1).trans rfl, (blk_cell BK139.out 2).trans rfl, (blk_cell BK139.out 3).trans rfl, (blk_cell BK138.out 0).trans rfl, (blk_cell BK138.out 1).trans rfl, (blk_cell BK138.out 2).trans rfl, (blk_cell BK138.out 3).trans rfl⟩ (fun hHeld => ?_); clear hK K; refine norm_ (a' := ?_) ?_ ?_; rotate_left
    ·show Act.put _ (some 67) _ = _; go_simp; rfl
    refine one_ (i := 14) (N := some 74) #[T, T, T, T, T, T, T, T, T, T, T, T, T, T, T, F, F, F] rfl rfl (one_of HT_.out (by kernel_rfl)) (by decide) (fun K hK => ?_); refine goes_ Try.func52 (by kernel_rfl) rfl #[.agg #[.int .i64 t148, .int .i64 t149], .agg #[.int .i64 t150, .int .i64 t151], .agg #[.int .i64 t146, .int .i64 t147]] (by rfl) rfl rfl (by (try simp only [List.map_toArray, List.map_cons, List.map_nil]); first | done | rfl | (simp only [List.length_drop, List.length_take]; rfl)) ?_; with_reducible refine (seg_Turn.calls kj2 t148 t149 t150 t151 t146 t147 t158 _ A42.out).mono ?_; rintro e w65 ⟨rfl, hb⟩; refine ⟨_, rfl, ?_⟩; have n0_ := Aside0.mk (blk_below (bI BK138.out) hb); have n1_ := Aside0.mk (blk_below (bI BK139.out) hb); have n2_ := Aside0.mk (below_step (by repeat with_reducible first | exact HB.out | refine bC ?_ | refine below_set ?_ GE138.out | refine below_set ?_ GE139.out) hb); clear BK138 BK139 HB; have BK138 := n0_; have BK139 := n1_; have HB := n2_; clear n0_ n1_ n2_; (try clear hb); (try clear hb2); (try clear hk); (try clear hi); refine hK.out _ _ ⟨(blk_cell BK139.out 0).trans rfl, (blk_cell BK139.out 1).trans rfl, (blk_cell BK139.out 2).trans rfl, (blk_cell BK139.out 3).trans rfl, (blk_cell BK138.out 0).trans rfl, (blk_cell BK138.out 1).trans rfl, (blk_cell BK138.out 2).trans rfl, (blk_cell BK138.out 3).trans rfl⟩ (fun hHeld => ?_); clear hK K; refine norm_ (a' := ?_) ?_ ?_; rotate_left
    ·show Act.put _ (some 74) _ = _; go_simp; rfl
    refine one_ (i := 15) (N := some 75) #[T, T, T, T, T, T, T, T, T, T, T, T, T, T, T, T, F, F] rfl rfl (one_of HT_.out (by kernel_rfl)) (by decide) (fun K hK => ?_); refine goes_ Try.func51 (by kernel_rfl) rfl #[.int .i64 t158] (by rfl) rfl rfl (by (try simp only [List.map_toArray, List.map_cons, List.map_nil]); first | done | rfl | (simp only [List.length_drop, List.length_take]; rfl)) ?_; with_reducible refine (seg_sign.calls t158 t159 _ A43.out).mono ?_; rintro e w66 ⟨rfl, hb⟩; refine ⟨_, rfl, ?_⟩; have n0_ := Aside0.mk (blk_below (bI BK138.out) hb); have n1_ := Aside0.mk (blk_below (bI BK139.out) hb); have n2_ := Aside0.mk (below_step (by repeat with_reducible first | exact HB.out | refine bC ?_ | refine below_set ?_ GE138.out | refine below_set ?_ GE139.out) hb); clear BK138 BK139 HB; have BK138 := n0_; have BK139 := n1_; have HB := n2_; clear n0_ n1_ n2_; (try clear hb); (try clear hb2); (try clear hk); (try clear hi); refine hK.out _ _ ⟨(blk_cell BK139.out 0).trans rfl, (blk_cell BK139.out 1).trans rfl, (blk_cell BK139.out 2).trans rfl, (blk_cell BK139.out 3).trans rfl, (blk_cell BK138.out 0).trans rfl, (blk_cell BK138.out 1).trans rfl, (blk_cell BK138.out 2).trans rfl, (blk_cell BK138.out 3).trans rfl⟩ (fun hHeld => ?_); clear hK K; refine norm_ (a' := ?_) ?_ ?_; rotate_left
    ·show Act.put _ (some 75) _ = _; go_simp; rfl
    refine pure_ (i := 16) (N := some 7) (v := ?_) (a' := ?_) #[T, T, T, T, T, T, T, T, T, T, T, T, T, T, T, T, T, F] rfl rfl (any_of HT_.out (by kernel_rfl)) (fun _ _ _ h => h) (Or.inl ⟨by rfl, ?_⟩) ?_ ?_; rotate_left
    ·intro w'; go_simp; with_reducible rfl
    rotate_left
    ·go_simp
     rfl
    refine pure_ (i := 17) (N := some 8) (v := ?_) (a' := ?_) #[T, T, T, T, T, T, T, T, T, T, T, T, T, T, T, T, T, T] rfl rfl (any_of HT_.out (by kernel_rfl)) (fun _ _ _ h => h) (Or.inl ⟨by rfl, ?_⟩) ?_ ?_; rotate_left
    ·intro w'; go_simp; with_reducible rfl
    rotate_left
    ·go_simp
     rfl
    refine done_ (done_of HT_.out (by kernel_rfl)) ?_
    go_upto_region 6 with (fail)
    go_cut [76] (fun v76 wc => ∃ (kq : Nat) (x76_43 : Bool), v76 = .bool x76_43 ∧ Aside0 (seg_Relate.j1 kq t153 t155 t157 t159 x76_43 t144 t145 t146 t147 t148 t149 t150 t151 = some r) ∧ Aside0 (kq ≤ kj2) ∧ Aside0 (wc.heap[gb138]? = some (.cells #[.int .i64 t144, .int .i64 t145, .int .i64 t146, .int .i64 t147] 45 (0, 0))) ∧ Aside0 (wc.heap[gb139]? = some (.cells #[.int .i64 t148, .int .i64 t149, .int .i64 t150, .int .i64 t151] 45 (0, 0))) ∧ Aside0 (Below w.heap.size w wc))
    case first =>
     have H := HC44.out; clear HC44
     by_cases c67 : t153 = 0
     ·rw [if_pos c67] at H
      have c67b0 : (t153 == 0) = true := beq_iff_eq.mpr c67; have c67b1 : (t153 != 0) = false := bne_eq_false_iff_eq.mpr c67; clear c67; (first | rw [c67b0] | (simp only [i64_w, i32_w]; rw [c67b0]) | skip); have H' := Aside0.mk H; clear H
      go_wp2
      go_meet
      case rel => exact ⟨_, ((t155 == 0)), (by first | rfl | (simp; done) | (simp [*]; done)), H', ⟨by have := HJ2.out; first | omega | exact Nat.le_refl _⟩, ⟨by refine bI ?_; exact BK138.out⟩, ⟨by refine bI ?_; exact BK139.out⟩, ⟨by repeat with_reducible first | exact HB.out | refine bC ?_ | refine below_set ?_ GE138.out | refine below_set ?_ GE139.out⟩⟩
     ·rw [if_neg c67] at H
      have c67b0 : (t153 == 0) = false := beq_eq_false_iff_ne.mpr c67; have c67b1 : (t153 != 0) = true := bne_iff_ne.mpr c67; (first | rw [c67b0] | (simp only [i64_w, i32_w]; rw [c67b0]) | skip); have H' := Aside0.mk H; clear H
      go_wp2
      go_meet
      case rel => exact ⟨_, (false), (by first | rfl | (simp; done) | (simp [*]; done)), H', ⟨by have := HJ2.out; first | omega | exact Nat.le_refl _⟩, ⟨by refine bI ?_; exact BK138.out⟩, ⟨by refine bI ?_; exact BK139.out⟩, ⟨by repeat with_reducible first | exact HB.out | refine bC ?_ | refine below_set ?_ GE138.out | refine below_set ?_ GE139.out⟩⟩
    case rest =>
     clear HC44
     try clear p2
     try clear c3
     try clear c5
     try clear c6
     try clear c35
     try clear c51
     try clear c52
     try clear c67
     try clear c67b0
     try clear c67b1
     obtain ⟨kq, x76_43, rfl, HA, HJ43, BK138, BK139, HB⟩ := hcut
     cases kq with
     | zero => exact absurd HA.out (by simp [seg_Relate.j1])
     | succ kj43 =>
      have H := HA.out; clear HA; simp only [seg_Relate.j1] at H
      by_cases c68 : x76_43 = true
      ·subst c68; have H1 : ((seg_flat.f kj43 t144 t145 t146 t147 t148 t149 t150 t151).bind fun t160 => (some t160)) = some r := by rw [if_pos rfl] at H; exact H
       clear H; have H := H1; clear H1; replace H := Option.bind_eq_some_iff.mp H; obtain ⟨t160, A690, H⟩ := H; replace H : (some t160) = some r := H; have A69 := Aside0.mk A690; clear A690; obtain rfl := Option.some.inj H; have hnb70 := NB138_139.out; have hnc70 := NB139_138.out; have hcz71_0 : wc.cell? ⟨gb138, 0, none⟩ = some (.int .i64 t144) := (blk_cell BK138.out 0).trans rfl; have hcz71_1 : wc.cell? ⟨gb138, 1, none⟩ = some (.int .i64 t145) := (blk_cell BK138.out 1).trans rfl; have hcz71_2 : wc.cell? ⟨gb138, 2, none⟩ = some (.int .i64 t146) := (blk_cell BK138.out 2).trans rfl; have hcz71_3 : wc.cell? ⟨gb138, 3, none⟩ = some (.int .i64 t147) := (blk_cell BK138.out 3).trans rfl; have hfz71_0 := blk_frozen BK138.out 0; have hfz71_1 := blk_frozen BK138.out 1; have hfz71_2 := blk_frozen BK138.out 2; have hfz71_3 := blk_frozen BK138.out 3; have hcz72_0 : wc.cell? ⟨gb139, 0, none⟩ = some (.int .i64 t148) := (blk_cell BK139.out 0).trans rfl; have hcz72_1 : wc.cell? ⟨gb139, 1, none⟩ = some (.int .i64 t149) := (blk_cell BK139.out 1).trans rfl; have hcz72_2 : wc.cell? ⟨gb139, 2, none⟩ = some (.int .i64 t150) := (blk_cell BK139.out 2).trans rfl; have hcz72_3 : wc.cell? ⟨gb139, 3, none⟩ = some (.int .i64 t151) := (blk_cell BK139.out 3).trans rfl; have hfz72_0 := blk_frozen BK139.out 0; have hfz72_1 := blk_frozen BK139.out 1; have hfz72_2 := blk_frozen BK139.out 2; have hfz72_3 := blk_frozen BK139.out 3
       go_wp2_with (first | ((with_reducible refine gate_callee (f := 53) rfl ?_); refine goesL_ (some 128) rfl rfl Try.func53 (by kernel_rfl) rfl #[.agg #[.int .i64 t144, .int .i64 t145, .int .i64 t146, .int .i64 t147], .agg #[.int .i64 t148, .int .i64 t149, .int .i64 t150, .int .i64 t151]] rfl (by (try simp only [List.map_toArray, List.map_cons, List.map_nil]); first | done | rfl | (simp only [List.length_drop, List.length_take]; rfl)) ?_; (with_reducible refine (seg_flat.calls kj43 t144 t145 t146 t147 t148 t149 t150 t151 t160 _ A69.out).mono ?_); rintro e w73 ⟨rfl, hb⟩; refine ⟨_, rfl, ?_⟩; have n0_ := Aside0.mk (blk_below (bI BK138.out) hb); have n1_ := Aside0.mk (blk_below (bI BK139.out) hb); have n2_ := Aside0.mk (below_step (by repeat with_reducible first | exact HB.out | refine bC ?_ | refine below_set ?_ GE138.out | refine below_set ?_ GE139.out) hb); clear BK138 BK139 HB; have BK138 := n0_; have BK139 := n1_; have HB := n2_; clear n0_ n1_ n2_; (try clear hb); (try clear hb2); (try clear hk); (try clear hi)))
       go_ret
       exact ⟨by first | rfl | (simp [errW_none, errW_some] <;> rfl) | (simp [*, errW_none, errW_some] <;> rfl), by repeat with_reducible first | exact HB.out | refine bC ?_ | refine below_set ?_ GE138.out | refine below_set ?_ GE139.out⟩
      ·replace c68 := Bool.eq_false_iff.mpr c68; subst c68; have H1 : (if (wrap64 (t153 * t155)) < 0 then (seg_Relate.j2 kj43 (decide ((wrap64 (t157 * t159)) < 0)) t144 t145 t146 t147 t148 t149 t150 t151) else (seg_Relate.j2 kj43 false t144 t145 t146 t147 t148 t149 t150 t151)) = some r := by rw [if_neg (show ¬ (false = true) by decide)] at H; exact H
       clear H; have H := H1; clear H1; have HC74 := Aside0.mk H; clear H
       go_upto_region 7 with (fail)
       go_cut [83] (fun v83 wc => ∃ (kq : Nat) (x83_73 : Bool), v83 = .bool x83_73 ∧ Aside0 (seg_Relate.j2 kq x83_73 t144 t145 t146 t147 t148 t149 t150 t151 = some r) ∧ Aside0 (kq ≤ kj43) ∧ Aside0 (wc.heap[gb138]? = some (.cells #[.int .i64 t144, .int .i64 t145, .int .i64 t146, .int .i64 t147] 45 (0, 0))) ∧ Aside0 (wc.heap[gb139]? = some (.cells #[.int .i64 t148, .int .i64 t149, .int .i64 t150, .int .i64 t151] 45 (0, 0))) ∧ Aside0 (Below w.heap.size w wc))
       case first =>
        have H := HC74.out; clear HC74
        by_cases c75 : (wrap64 (t153 * t155)) < 0
        ·rw [if_pos c75] at H
         have c75b0 : decide ((wrap64 (t153 * t155)) < 0) = true := decide_eq_true c75; clear c75; (first | rw [c75b0] | (simp only [i64_w, i32_w]; rw [c75b0]) | skip); have H' := Aside0.mk H; clear H
         go_wp2
         go_meet
         case rel => exact ⟨_, (decide ((wrap64 (t157 * t159)) < 0)), (by first | rfl | (simp; done) | (simp [*]; done)), H', ⟨by have := HJ2.out; have := HJ43.out; first | omega | exact Nat.le_refl _⟩, ⟨by refine bI ?_; exact BK138.out⟩, ⟨by refine bI ?_; exact BK139.out⟩, ⟨by repeat with_reducible first | exact HB.out | refine bC ?_ | refine below_set ?_ GE138.out | refine below_set ?_ GE139.out⟩⟩
        ·rw [if_neg c75] at H
         have c75b0 : decide ((wrap64 (t153 * t155)) < 0) = false := decide_eq_false c75; clear c75; (first | rw [c75b0] | (simp only [i64_w, i32_w]; rw [c75b0]) | skip); have H' := Aside0.mk H; clear H
         go_wp2
         go_meet
         case rel => exact ⟨_, (false), (by first | rfl | (simp; done) | (simp [*]; done)), H', ⟨by have := HJ2.out; have := HJ43.out; first | omega | exact Nat.le_refl _⟩, ⟨by refine bI ?_; exact BK138.out⟩, ⟨by refine bI ?_; exact BK139.out⟩, ⟨by repeat with_reducible first | exact HB.out | refine bC ?_ | refine below_set ?_ GE138.out | refine below_set ?_ GE139.out⟩⟩
       case rest =>
        clear HC74
        try clear p2
        try clear c3
        try clear c5
        try clear c6
        try clear p6
        try clear c7
        try clear c35
        try clear c51
        try clear c52
        try clear c53
        try clear p64
        try clear c67
        try clear c67b0
        try clear c67b1
        try clear c68
        try clear c70
        try clear c75
        try clear c75b0
        try clear hcz71_0
        try clear hcz71_1
        try clear hcz71_2
        try clear hcz71_3
        try clear hcz72_0
        try clear hcz72_1
        try clear hcz72_2
        try clear hcz72_3
        try clear hfz71_0
        try clear hfz71_1
        try clear hfz71_2
        try clear hfz71_3
        try clear hfz72_0
        try clear hfz72_1
        try clear hfz72_2
        try clear hfz72_3
        try clear p2
        obtain ⟨kq, x83_73, rfl, HA, HJ73, BK138, BK139, HB⟩ := hcut
        cases kq with
        | zero => exact absurd HA.out (by simp [seg_Relate.j2])
        | succ kj73 =>
         have H := HA.out; clear HA; simp only [seg_Relate.j2] at H
         by_cases c76 : x83_73 = true
         ·subst c76; have H1 : (some 2) = some r := by rw [if_pos rfl] at H; exact H
          clear H; have H := H1; clear H1; obtain rfl := Option.some.inj H
          go_wp2
          go_ret
          exact ⟨by first | rfl | (simp [errW_none, errW_some] <;> rfl) | (simp [*, errW_none, errW_some] <;> rfl), by repeat with_reducible first | exact HB.out | refine bC ?_ | refine below_set ?_ GE138.out | refine below_set ?_ GE139.out⟩
         ·replace c76 := Bool.eq_false_iff.mpr c76; subst c76; have H1 : ((seg_On.f kj73 t148 t149 t144 t145 t146 t147).bind fun t161 => (if t161 = true then (some 1) else ((seg_On.f kj73 t150 t151 t144 t145 t146 t147).bind fun t162 => (if t162 = true then (some 1) else ((seg_On.f kj73 t144 t145 t148 t149 t150 t151).bind fun t163 => (if t163 = true then (some 1) else ((seg_On.f kj73 t146 t147 t148 t149 t150 t151).bind fun t164 => (if t164 = true then (some 1) else (some 0))))))))) = some r := by rw [if_neg (show ¬ (false = true) by decide)] at H; exact H
          clear H; have H := H1; clear H1; replace H := Option.bind_eq_some_iff.mp H; obtain ⟨t161, A770, H⟩ := H; replace H : (if t161 = true then (some 1) else ((seg_On.f kj73 t150 t151 t144 t145 t146 t147).bind fun t162 => (if t162 = true then (some 1) else ((seg_On.f kj73 t144 t145 t148 t149 t150 t151).bind fun t163 => (if t163 = true then (some 1) else ((seg_On.f kj73 t146 t147 t148 t149 t150 t151).bind fun t164 => (if t164 = true then (some 1) else (some 0)))))))) = some r := H; have A77 := Aside0.mk A770; clear A770
          by_cases c78 : t161 = true
          ·subst c78; have H1 : (some 1) = some r := by rw [if_pos rfl] at H; exact H
           clear H; have H := H1; clear H1; obtain rfl := Option.some.inj H; have hnb79 := NB139_138.out; have hnc79 := NB138_139.out; have hcz80_0 : wc.cell? ⟨gb139, 0, none⟩ = some (.int .i64 t148) := (blk_cell BK139.out 0).trans rfl; have hcz80_1 : wc.cell? ⟨gb139, 1, none⟩ = some (.int .i64 t149) := (blk_cell BK139.out 1).trans rfl; have hcz80_2 : wc.cell? ⟨gb139, 2, none⟩ = some (.int .i64 t150) := (blk_cell BK139.out 2).trans rfl; have hcz80_3 : wc.cell? ⟨gb139, 3, none⟩ = some (.int .i64 t151) := (blk_cell BK139.out 3).trans rfl; have hfz80_0 := blk_frozen BK139.out 0; have hfz80_1 := blk_frozen BK139.out 1; have hfz80_2 := blk_frozen BK139.out 2; have hfz80_3 := blk_frozen BK139.out 3; have hcz81_0 : wc.cell? ⟨gb138, 0, none⟩ = some (.int .i64 t144) := (blk_cell BK138.out 0).trans rfl; have hcz81_1 : wc.cell? ⟨gb138, 1, none⟩ = some (.int .i64 t145) := (blk_cell BK138.out 1).trans rfl; have hcz81_2 : wc.cell? ⟨gb138, 2, none⟩ = some (.int .i64 t146) := (blk_cell BK138.out 2).trans rfl; have hcz81_3 : wc.cell? ⟨gb138, 3, none⟩ = some (.int .i64 t147) := (blk_cell BK138.out 3).trans rfl; have hfz81_0 := blk_frozen BK138.out 0; have hfz81_1 := blk_frozen BK138.out 1; have hfz81_2 := blk_frozen BK138.out 2; have hfz81_3 := blk_frozen BK138.out 3
           go_wp2_with (first | ((with_reducible refine gate_callee (f := 39) rfl ?_); refine goesL_ (some 101) rfl rfl Try.func39 (by kernel_rfl) rfl #[.agg #[.int .i64 t148, .int .i64 t149], .agg #[.int .i64 t144, .int .i64 t145], .agg #[.int .i64 t146, .int .i64 t147]] rfl (by (try simp only [List.map_toArray, List.map_cons, List.map_nil]); first | done | rfl | (simp only [List.length_drop, List.length_take]; rfl)) ?_; (with_reducible refine (seg_On.calls kj73 t148 t149 t144 t145 t146 t147 true _ A77.out).mono ?_); rintro e w82 ⟨rfl, hb⟩; refine ⟨_, rfl, ?_⟩; have n0_ := Aside0.mk (blk_below (bI BK138.out) hb); have n1_ := Aside0.mk (blk_below (bI BK139.out) hb); have n2_ := Aside0.mk (below_step (by repeat with_reducible first | exact HB.out | refine bC ?_ | refine below_set ?_ GE138.out | refine below_set ?_ GE139.out) hb); clear BK138 BK139 HB; have BK138 := n0_; have BK139 := n1_; have HB := n2_; clear n0_ n1_ n2_; (try clear hb); (try clear hb2); (try clear hk); (try clear hi)))
           go_ret
           exact ⟨by first | rfl | (simp [errW_none, errW_some] <;> rfl) | (simp [*, errW_none, errW_some] <;> rfl), by repeat with_reducible first | exact HB.out | refine bC ?_ | refine below_set ?_ GE138.out | refine below_set ?_ GE139.out⟩
          ·replace c78 := Bool.eq_false_iff.mpr c78; subst c78; have H1 : ((seg_On.f kj73 t150 t151 t144 t145 t146 t147).bind fun t162 => (if t162 = true then (some 1) else ((seg_On.f kj73 t144 t145 t148 t149 t150 t151).bind fun t163 => (if t163 = true then (some 1) else ((seg_On.f kj73 t146 t147 t148 t149 t150 t151).bind fun t164 => (if t164 = true then (some 1) else (some 0))))))) = some r := by rw [if_neg (show ¬ (false = true) by decide)] at H; exact H
           clear H; have H := H1; clear H1; replace H := Option.bind_eq_some_iff.mp H; obtain ⟨t162, A830, H⟩ := H; replace H : (if t162 = true then (some 1) else ((seg_On.f kj73 t144 t145 t148 t149 t150 t151).bind fun t163 => (if t163 = true then (some 1) else ((seg_On.f kj73 t146 t147 t148 t149 t150 t151).bind fun t164 => (if t164 = true then (some 1) else (some 0)))))) = some r := H; have A83 := Aside0.mk A830; clear A830
           by_cases c84 : t162 = true
           ·subst c84; have H1 : (some 1) = some r := by rw [if_pos rfl] at H; exact H
            clear H; have H := H1; clear H1; obtain rfl := Option.some.inj H; have hnb85 := NB139_138.out; have hnc85 := NB138_139.out; have hcz86_0 : wc.cell? ⟨gb139, 0, none⟩ = some (.int .i64 t148) := (blk_cell BK139.out 0).trans rfl; have hcz86_1 : wc.cell? ⟨gb139, 1, none⟩ = some (.int .i64 t149) := (blk_cell BK139.out 1).trans rfl; have hcz86_2 : wc.cell? ⟨gb139, 2, none⟩ = some (.int .i64 t150) := (blk_cell BK139.out 2).trans rfl; have hcz86_3 : wc.cell? ⟨gb139, 3, none⟩ = some (.int .i64 t151) := (blk_cell BK139.out 3).trans rfl; have hfz86_0 := blk_frozen BK139.out 0; have hfz86_1 := blk_frozen BK139.out 1; have hfz86_2 := blk_frozen BK139.out 2; have hfz86_3 := blk_frozen BK139.out 3; have hcz87_0 : wc.cell? ⟨gb138, 0, none⟩ = some (.int .i64 t144) := (blk_cell BK138.out 0).trans rfl; have hcz87_1 : wc.cell? ⟨gb138, 1, none⟩ = some (.int .i64 t145) := (blk_cell BK138.out 1).trans rfl; have hcz87_2 : wc.cell? ⟨gb138, 2, none⟩ = some (.int .i64 t146) := (blk_cell BK138.out 2).trans rfl; have hcz87_3 : wc.cell? ⟨gb138, 3, none⟩ = some (.int .i64 t147) := (blk_cell BK138.out 3).trans rfl; have hfz87_0 := blk_frozen BK138.out 0; have hfz87_1 := blk_frozen BK138.out 1; have hfz87_2 := blk_frozen BK138.out 2; have hfz87_3 := blk_frozen BK138.out 3
            go_wp2_with (first | ((with_reducible refine gate_callee (f := 39) rfl ?_); refine goesL_ (some 101) rfl rfl Try.func39 (by kernel_rfl) rfl #[.agg #[.int .i64 t148, .int .i64 t149], .agg #[.int .i64 t144, .int .i64 t145], .agg #[.int .i64 t146, .int .i64 t147]] rfl (by (try simp only [List.map_toArray, List.map_cons, List.map_nil]); first | done | rfl | (simp only [List.length_drop, List.length_take]; rfl)) ?_; (with_reducible refine (seg_On.calls kj73 t148 t149 t144 t145 t146 t147 false _ A77.out).mono ?_); rintro e w88 ⟨rfl, hb⟩; refine ⟨_, rfl, ?_⟩; have n0_ := Aside0.mk (blk_below (bI BK138.out) hb); have n1_ := Aside0.mk (blk_below (bI BK139.out) hb); have n2_ := Aside0.mk (below_step (by repeat with_reducible first | exact HB.out | refine bC ?_ | refine below_set ?_ GE138.out | refine below_set ?_ GE139.out) hb); clear BK138 BK139 HB; have BK138 := n0_; have BK139 := n1_; have HB := n2_; clear n0_ n1_ n2_; (try clear hb); (try clear hb2); (try clear hk); (try clear hi); have hcz89_0 : w88.cell? ⟨gb139, 0, none⟩ = some (.int .i64 t148) := (blk_cell BK139.out 0).trans rfl; have hcz89_1 : w88.cell? ⟨gb139, 1, none⟩ = some (.int .i64 t149) := (blk_cell BK139.out 1).trans rfl; have hcz89_2 : w88.cell? ⟨gb139, 2, none⟩ = some (.int .i64 t150) := (blk_cell BK139.out 2).trans rfl; have hcz89_3 : w88.cell? ⟨gb139, 3, none⟩ = some (.int .i64 t151) := (blk_cell BK139.out 3).trans rfl; have hfz89_0 := blk_frozen BK139.out 0; have hfz89_1 := blk_frozen BK139.out 1; have hfz89_2 := blk_frozen BK139.out 2; have hfz89_3 := blk_frozen BK139.out 3; have hcz90_0 : w88.cell? ⟨gb138, 0, none⟩ = some (.int .i64 t144) := (blk_cell BK138.out 0).trans rfl; have hcz90_1 : w88.cell? ⟨gb138, 1, none⟩ = some (.int .i64 t145) := (blk_cell BK138.out 1).trans rfl; have hcz90_2 : w88.cell? ⟨gb138, 2, none⟩ = some (.int .i64 t146) := (blk_cell BK138.out 2).trans rfl; have hcz90_3 : w88.cell? ⟨gb138, 3, none⟩ = some (.int .i64 t147) := (blk_cell BK138.out 3).trans rfl; have hfz90_0 := blk_frozen BK138.out 0; have hfz90_1 := blk_frozen BK138.out 1; have hfz90_2 := blk_frozen BK138.out 2; have hfz90_3 := blk_frozen BK138.out 3) | ((with_reducible refine gate_callee (f := 39) rfl ?_); refine goesL_ (some 109) rfl rfl Try.func39 (by kernel_rfl) rfl #[.agg #[.int .i64 t150, .int .i64 t151], .agg #[.int .i64 t144, .int .i64 t145], .agg #[.int .i64 t146, .int .i64 t147]] rfl (by (try simp only [List.map_toArray, List.map_cons, List.map_nil]); first | done | rfl | (simp only [List.length_drop, List.length_take]; rfl)) ?_; (with_reducible refine (seg_On.calls kj73 t150 t151 t144 t145 t146 t147 true _ A83.out).mono ?_); rintro e w91 ⟨rfl, hb⟩; refine ⟨_, rfl, ?_⟩; have n0_ := Aside0.mk (blk_below (bI BK138.out) hb); have n1_ := Aside0.mk (blk_below (bI BK139.out) hb); have n2_ := Aside0.mk (below_step (by repeat with_reducible first | exact HB.out | refine bC ?_ | refine below_set ?_ GE138.out | refine below_set ?_ GE139.out) hb); clear BK138 BK139 HB; have BK138 := n0_; have BK139 := n1_; have HB := n2_; clear n0_ n1_ n2_; (try clear hb); (try clear hb2); (try clear hk); (try clear hi)))
            go_ret
            exact ⟨by first | rfl | (simp [errW_none, errW_some] <;> rfl) | (simp [*, errW_none, errW_some] <;> rfl), by repeat with_reducible first | exact HB.out | refine bC ?_ | refine below_set ?_ GE138.out | refine below_set ?_ GE139.out⟩
           ·replace c84 := Bool.eq_false_iff.mpr c84; subst c84; have H1 : ((seg_On.f kj73 t144 t145 t148 t149 t150 t151).bind fun t163 => (if t163 = true then (some 1) else ((seg_On.f kj73 t146 t147 t148 t149 t150 t151).bind fun t164 => (if t164 = true then (some 1) else (some 0))))) = some r := by rw [if_neg (show ¬ (false = true) by decide)] at H; exact H
            clear H; have H := H1; clear H1; replace H := Option.bind_eq_some_iff.mp H; obtain ⟨t163, A920, H⟩ := H; replace H : (if t163 = true then (some 1) else ((seg_On.f kj73 t146 t147 t148 t149 t150 t151).bind fun t164 => (if t164 = true then (some 1) else (some 0)))) = some r := H; have A92 := Aside0.mk A920; clear A920
            by_cases c93 : t163 = true
            ·subst c93; have H1 : (some 1) = some r := by rw [if_pos rfl] at H; exact H
             clear H; have H := H1; clear H1; obtain rfl := Option.some.inj H; have hnb94 := NB139_138.out; have hnc94 := NB138_139.out; have hcz95_0 : wc.cell? ⟨gb139, 0, none⟩ = some (.int .i64 t148) := (blk_cell BK139.out 0).trans rfl; have hcz95_1 : wc.cell? ⟨gb139, 1, none⟩ = some (.int .i64 t149) := (blk_cell BK139.out 1).trans rfl; have hcz95_2 : wc.cell? ⟨gb139, 2, none⟩ = some (.int .i64 t150) := (blk_cell BK139.out 2).trans rfl; have hcz95_3 : wc.cell? ⟨gb139, 3, none⟩ = some (.int .i64 t151) := (blk_cell BK139.out 3).trans rfl; have hfz95_0 := blk_frozen BK139.out 0; have hfz95_1 := blk_frozen BK139.out 1; have hfz95_2 := blk_frozen BK139.out 2; have hfz95_3 := blk_frozen BK139.out 3; have hcz96_0 : wc.cell? ⟨gb138, 0, none⟩ = some (.int .i64 t144) := (blk_cell BK138.out 0).trans rfl; have hcz96_1 : wc.cell? ⟨gb138, 1, none⟩ = some (.int .i64 t145) := (blk_cell BK138.out 1).trans rfl; have hcz96_2 : wc.cell? ⟨gb138, 2, none⟩ = some (.int .i64 t146) := (blk_cell BK138.out 2).trans rfl; have hcz96_3 : wc.cell? ⟨gb138, 3, none⟩ = some (.int .i64 t147) := (blk_cell BK138.out 3).trans rfl; have hfz96_0 := blk_frozen BK138.out 0; have hfz96_1 := blk_frozen BK138.out 1; have hfz96_2 := blk_frozen BK138.out 2; have hfz96_3 := blk_frozen BK138.out 3
             go_wp2_with (first | ((with_reducible refine gate_callee (f := 39) rfl ?_); refine goesL_ (some 101) rfl rfl Try.func39 (by kernel_rfl) rfl #[.agg #[.int .i64 t148, .int .i64 t149], .agg #[.int .i64 t144, .int .i64 t145], .agg #[.int .i64 t146, .int .i64 t147]] rfl (by (try simp only [List.map_toArray, List.map_cons, List.map_nil]); first | done | rfl | (simp only [List.length_drop, List.length_take]; rfl)) ?_; (with_reducible refine (seg_On.calls kj73 t148 t149 t144 t145 t146 t147 false _ A77.out).mono ?_); rintro e w97 ⟨rfl, hb⟩; refine ⟨_, rfl, ?_⟩; have n0_ := Aside0.mk (blk_below (bI BK138.out) hb); have n1_ := Aside0.mk (blk_below (bI BK139.out) hb); have n2_ := Aside0.mk (below_step (by repeat with_reducible first | exact HB.out | refine bC ?_ | refine below_set ?_ GE138.out | refine below_set ?_ GE139.out) hb); clear BK138 BK139 HB; have BK138 := n0_; have BK139 := n1_; have HB := n2_; clear n0_ n1_ n2_; (try clear hb); (try clear hb2); (try clear hk); (try clear hi); have hcz98_0 : w97.cell? ⟨gb139, 0, none⟩ = some (.int .i64 t148) := (blk_cell BK139.out 0).trans rfl; have hcz98_1 : w97.cell? ⟨gb139, 1, none⟩ = some (.int .i64 t149) := (blk_cell BK139.out 1).trans rfl; have hcz98_2 : w97.cell? ⟨gb139, 2, none⟩ = some (.int .i64 t150) := (blk_cell BK139.out 2).trans rfl; have hcz98_3 : w97.cell? ⟨gb139, 3, none⟩ = some (.int .i64 t151) := (blk_cell BK139.out 3).trans rfl; have hfz98_0 := blk_frozen BK139.out 0; have hfz98_1 := blk_frozen BK139.out 1; have hfz98_2 := blk_frozen BK139.out 2; have hfz98_3 := blk_frozen BK139.out 3; have hcz99_0 : w97.cell? ⟨gb138, 0, none⟩ = some (.int .i64 t144) := (blk_cell BK138.out 0).trans rfl; have hcz99_1 : w97.cell? ⟨gb138, 1, none⟩ = some (.int .i64 t145) := (blk_cell BK138.out 1).trans rfl; have hcz99_2 : w97.cell? ⟨gb138, 2, none⟩ = some (.int .i64 t146) := (blk_cell BK138.out 2).trans rfl; have hcz99_3 : w97.cell? ⟨gb138, 3, none⟩ = some (.int .i64 t147) := (blk_cell BK138.out 3).trans rfl; have hfz99_0 := blk_frozen BK138.out 0; have hfz99_1 := blk_frozen BK138.out 1; have hfz99_2 := blk_frozen BK138.out 2; have hfz99_3 := blk_frozen BK138.out 3) | ((with_reducible refine gate_callee (f := 39) rfl ?_); refine goesL_ (some 109) rfl rfl Try.func39 (by kernel_rfl) rfl #[.agg #[.int .i64 t150, .int .i64 t151], .agg #[.int .i64 t144, .int .i64 t145], .agg #[.int .i64 t146, .int .i64 t147]] rfl (by (try simp only [List.map_toArray, List.map_cons, List.map_nil]); first | done | rfl | (simp only [List.length_drop, List.length_take]; rfl)) ?_; (with_reducible refine (seg_On.calls kj73 t150 t151 t144 t145 t146 t147 false _ A83.out).mono ?_); rintro e w100 ⟨rfl, hb⟩; refine ⟨_, rfl, ?_⟩; have n0_ := Aside0.mk (blk_below (bI BK138.out) hb); have n1_ := Aside0.mk (blk_below (bI BK139.out) hb); have n2_ := Aside0.mk (below_step (by repeat with_reducible first | exact HB.out | refine bC ?_ | refine below_set ?_ GE138.out | refine below_set ?_ GE139.out) hb); clear BK138 BK139 HB; have BK138 := n0_; have BK139 := n1_; have HB := n2_; clear n0_ n1_ n2_; (try clear hb); (try clear hb2); (try clear hk); (try clear hi); have hcz101_0 : w100.cell? ⟨gb138, 0, none⟩ = some (.int .i64 t144) := (blk_cell BK138.out 0).trans rfl; have hcz101_1 : w100.cell? ⟨gb138, 1, none⟩ = some (.int .i64 t145) := (blk_cell BK138.out 1).trans rfl; have hcz101_2 : w100.cell? ⟨gb138, 2, none⟩ = some (.int .i64 t146) := (blk_cell BK138.out 2).trans rfl; have hcz101_3 : w100.cell? ⟨gb138, 3, none⟩ = some (.int .i64 t147) := (blk_cell BK138.out 3).trans rfl; have hfz101_0 := blk_frozen BK138.out 0; have hfz101_1 := blk_frozen BK138.out 1; have hfz101_2 := blk_frozen BK138.out 2; have hfz101_3 := blk_frozen BK138.out 3; have hcz102_0 : w100.cell? ⟨gb139, 0, none⟩ = some (.int .i64 t148) := (blk_cell BK139.out 0).trans rfl; have hcz102_1 : w100.cell? ⟨gb139, 1, none⟩ = some (.int .i64 t149) := (blk_cell BK139.out 1).trans rfl; have hcz102_2 : w100.cell? ⟨gb139, 2, none⟩ = some (.int .i64 t150) := (blk_cell BK139.out 2).trans rfl; have hcz102_3 : w100.cell? ⟨gb139, 3, none⟩ = some (.int .i64 t151) := (blk_cell BK139.out 3).trans rfl; have hfz102_0 := blk_frozen BK139.out 0; have hfz102_1 := blk_frozen BK139.out 1; have hfz102_2 := blk_frozen BK139.out 2; have hfz102_3 := blk_frozen BK139.out 3) | ((with_reducible refine gate_callee (f := 39) rfl ?_); refine goesL_ (some 117) rfl rfl Try.func39 (by kernel_rfl) rfl #[.agg #[.int .i64 t144, .int .i64 t145], .agg #[.int .i64 t148, .int .i64 t149], .agg #[.int .i64 t150, .int .i64 t151]] rfl (by (try simp only [List.map_toArray, List.map_cons, List.map_nil]); first | done | rfl | (simp only [List.length_drop, List.length_take]; rfl)) ?_; (with_reducible refine (seg_On.calls kj73 t144 t145 t148 t149 t150 t151 true _ A92.out).mono ?_); rintro e w103 ⟨rfl, hb⟩; refine ⟨_, rfl, ?_⟩; have n0_ := Aside0.mk (blk_below (bI BK138.out) hb); have n1_ := Aside0.mk (blk_below (bI BK139.out) hb); have n2_ := Aside0.mk (below_step (by repeat with_reducible first | exact HB.out | refine bC ?_ | refine below_set ?_ GE138.out | refine below_set ?_ GE139.out) hb); clear BK138 BK139 HB; have BK138 := n0_; have BK139 := n1_; have HB := n2_; clear n0_ n1_ n2_; (try clear hb); (try clear hb2); (try clear hk); (try clear hi)))
             go_ret
             exact ⟨by first | rfl | (simp [errW_none, errW_some] <;> rfl) | (simp [*, errW_none, errW_some] <;> rfl), by repeat with_reducible first | exact HB.out | refine bC ?_ | refine below_set ?_ GE138.out | refine below_set ?_ GE139.out⟩
            ·replace c93 := Bool.eq_false_iff.mpr c93; subst c93; have H1 : ((seg_On.f kj73 t146 t147 t148 t149 t150 t151).bind fun t164 => (if t164 = true then (some 1) else (some 0))) = some r := by rw [if_neg (show ¬ (false = true) by decide)] at H; exact H
             clear H; have H := H1; clear H1; replace H := Option.bind_eq_some_iff.mp H; obtain ⟨t164, A1040, H⟩ := H; replace H : (if t164 = true then (some 1) else (some 0)) = some r := H; have A104 := Aside0.mk A1040; clear A1040
             by_cases c105 : t164 = true
             ·subst c105; have H1 : (some 1) = some r := by rw [if_pos rfl] at H; exact H
              clear H; have H := H1; clear H1; obtain rfl := Option.some.inj H; have hnb106 := NB139_138.out; have hnc106 := NB138_139.out; have hcz107_0 : wc.cell? ⟨gb139, 0, none⟩ = some (.int .i64 t148) := (blk_cell BK139.out 0).trans rfl; have hcz107_1 : wc.cell? ⟨gb139, 1, none⟩ = some (.int .i64 t149) := (blk_cell BK139.out 1).trans rfl; have hcz107_2 : wc.cell? ⟨gb139, 2, none⟩ = some (.int .i64 t150) := (blk_cell BK139.out 2).trans rfl; have hcz107_3 : wc.cell? ⟨gb139, 3, none⟩ = some (.int .i64 t151) := (blk_cell BK139.out 3).trans rfl; have hfz107_0 := blk_frozen BK139.out 0; have hfz107_1 := blk_frozen BK139.out 1; have hfz107_2 := blk_frozen BK139.out 2; have hfz107_3 := blk_frozen BK139.out 3; have hcz108_0 : wc.cell? ⟨gb138, 0, none⟩ = some (.int .i64 t144) := (blk_cell BK138.out 0).trans rfl; have hcz108_1 : wc.cell? ⟨gb138, 1, none⟩ = some (.int .i64 t145) := (blk_cell BK138.out 1).trans rfl; have hcz108_2 : wc.cell? ⟨gb138, 2, none⟩ = some (.int .i64 t146) := (blk_cell BK138.out 2).trans rfl; have hcz108_3 : wc.cell? ⟨gb138, 3, none⟩ = some (.int .i64 t147) := (blk_cell BK138.out 3).trans rfl; have hfz108_0 := blk_frozen BK138.out 0; have hfz108_1 := blk_frozen BK138.out 1; have hfz108_2 := blk_frozen BK138.out 2; have hfz108_3 := blk_frozen BK138.out 3
              go_wp2_with (first | ((with_reducible refine gate_callee (f := 39) rfl ?_); refine goesL_ (some 101) rfl rfl Try.func39 (by kernel_rfl) rfl #[.agg #[.int .i64 t148, .int .i64 t149], .agg #[.int .i64 t144, .int .i64 t145], .agg #[.int .i64 t146, .int .i64 t147]] rfl (by (try simp only [List.map_toArray, List.map_cons, List.map_nil]); first | done | rfl | (simp only [List.length_drop, List.length_take]; rfl)) ?_; (with_reducible refine (seg_On.calls kj73 t148 t149 t144 t145 t146 t147 false _ A77.out).mono ?_); rintro e w109 ⟨rfl, hb⟩; refine ⟨_, rfl, ?_⟩; have n0_ := Aside0.mk (blk_below (bI BK138.out) hb); have n1_ := Aside0.mk (blk_below (bI BK139.out) hb); have n2_ := Aside0.mk (below_step (by repeat with_reducible first | exact HB.out | refine bC ?_ | refine below_set ?_ GE138.out | refine below_set ?_ GE139.out) hb); clear BK138 BK139 HB; have BK138 := n0_; have BK139 := n1_; have HB := n2_; clear n0_ n1_ n2_; (try clear hb); (try clear hb2); (try clear hk); (try clear hi); have hcz110_0 : w109.cell? ⟨gb139, 0, none⟩ = some (.int .i64 t148) := (blk_cell BK139.out 0).trans rfl; have hcz110_1 : w109.cell? ⟨gb139, 1, none⟩ = some (.int .i64 t149) := (blk_cell BK139.out 1).trans rfl; have hcz110_2 : w109.cell? ⟨gb139, 2, none⟩ = some (.int .i64 t150) := (blk_cell BK139.out 2).trans rfl; have hcz110_3 : w109.cell? ⟨gb139, 3, none⟩ = some (.int .i64 t151) := (blk_cell BK139.out 3).trans rfl; have hfz110_0 := blk_frozen BK139.out 0; have hfz110_1 := blk_frozen BK139.out 1; have hfz110_2 := blk_frozen BK139.out 2; have hfz110_3 := blk_frozen BK139.out 3; have hcz111_0 : w109.cell? ⟨gb138, 0, none⟩ = some (.int .i64 t144) := (blk_cell BK138.out 0).trans rfl; have hcz111_1 : w109.cell? ⟨gb138, 1, none⟩ = some (.int .i64 t145) := (blk_cell BK138.out 1).trans rfl; have hcz111_2 : w109.cell? ⟨gb138, 2, none⟩ = some (.int .i64 t146) := (blk_cell BK138.out 2).trans rfl; have hcz111_3 : w109.cell? ⟨gb138, 3, none⟩ = some (.int .i64 t147) := (blk_cell BK138.out 3).trans rfl; have hfz111_0 := blk_frozen BK138.out 0; have hfz111_1 := blk_frozen BK138.out 1; have hfz111_2 := blk_frozen BK138.out 2; have hfz111_3 := blk_frozen BK138.out 3) | ((with_reducible refine gate_callee (f := 39) rfl ?_); refine goesL_ (some 109) rfl rfl Try.func39 (by kernel_rfl) rfl #[.agg #[.int .i64 t150, .int .i64 t151], .agg #[.int .i64 t144, .int .i64 t145], .agg #[.int .i64 t146, .int .i64 t147]] rfl (by (try simp only [List.map_toArray, List.map_cons, List.map_nil]); first | done | rfl | (simp only [List.length_drop, List.length_take]; rfl)) ?_; (with_reducible refine (seg_On.calls kj73 t150 t151 t144 t145 t146 t147 false _ A83.out).mono ?_); rintro e w112 ⟨rfl, hb⟩; refine ⟨_, rfl, ?_⟩; have n0_ := Aside0.mk (blk_below (bI BK138.out) hb); have n1_ := Aside0.mk (blk_below (bI BK139.out) hb); have n2_ := Aside0.mk (below_step (by repeat with_reducible first | exact HB.out | refine bC ?_ | refine below_set ?_ GE138.out | refine below_set ?_ GE139.out) hb); clear BK138 BK139 HB; have BK138 := n0_; have BK139 := n1_; have HB := n2_; clear n0_ n1_ n2_; (try clear hb); (try clear hb2); (try clear hk); (try clear hi); have hcz113_0 : w112.cell? ⟨gb138, 0, none⟩ = some (.int .i64 t144) := (blk_cell BK138.out 0).trans rfl; have hcz113_1 : w112.cell? ⟨gb138, 1, none⟩ = some (.int .i64 t145) := (blk_cell BK138.out 1).trans rfl; have hcz113_2 : w112.cell? ⟨gb138, 2, none⟩ = some (.int .i64 t146) := (blk_cell BK138.out 2).trans rfl; have hcz113_3 : w112.cell? ⟨gb138, 3, none⟩ = some (.int .i64 t147) := (blk_cell BK138.out 3).trans rfl; have hfz113_0 := blk_frozen BK138.out 0; have hfz113_1 := blk_frozen BK138.out 1; have hfz113_2 := blk_frozen BK138.out 2; have hfz113_3 := blk_frozen BK138.out 3; have hcz114_0 : w112.cell? ⟨gb139, 0, none⟩ = some (.int .i64 t148) := (blk_cell BK139.out 0).trans rfl; have hcz114_1 : w112.cell? ⟨gb139, 1, none⟩ = some (.int .i64 t149) := (blk_cell BK139.out 1).trans rfl; have hcz114_2 : w112.cell? ⟨gb139, 2, none⟩ = some (.int .i64 t150) := (blk_cell BK139.out 2).trans rfl; have hcz114_3 : w112.cell? ⟨gb139, 3, none⟩ = some (.int .i64 t151) := (blk_cell BK139.out 3).trans rfl; have hfz114_0 := blk_frozen BK139.out 0; have hfz114_1 := blk_frozen BK139.out 1; have hfz114_2 := blk_frozen BK139.out 2; have hfz114_3 := blk_frozen BK139.out 3) | ((with_reducible refine gate_callee (f := 39) rfl ?_); refine goesL_ (some 117) rfl rfl Try.func39 (by kernel_rfl) rfl #[.agg #[.int .i64 t144, .int .i64 t145], .agg #[.int .i64 t148, .int .i64 t149], .agg #[.int .i64 t150, .int .i64 t151]] rfl (by (try simp only [List.map_toArray, List.map_cons, List.map_nil]); first | done | rfl | (simp only [List.length_drop, List.length_take]; rfl)) ?_; (with_reducible refine (seg_On.calls kj73 t144 t145 t148 t149 t150 t151 false _ A92.out).mono ?_); rintro e w115 ⟨rfl, hb⟩; refine ⟨_, rfl, ?_⟩; have n0_ := Aside0.mk (blk_below (bI BK138.out) hb); have n1_ := Aside0.mk (blk_below (bI BK139.out) hb); have n2_ := Aside0.mk (below_step (by repeat with_reducible first | exact HB.out | refine bC ?_ | refine below_set ?_ GE138.out | refine below_set ?_ GE139.out) hb); clear BK138 BK139 HB; have BK138 := n0_; have BK139 := n1_; have HB := n2_; clear n0_ n1_ n2_; (try clear hb); (try clear hb2); (try clear hk); (try clear hi); have hcz116_0 : w115.cell? ⟨gb138, 0, none⟩ = some (.int .i64 t144) := (blk_cell BK138.out 0).trans rfl; have hcz116_1 : w115.cell? ⟨gb138, 1, none⟩ = some (.int .i64 t145) := (blk_cell BK138.out 1).trans rfl; have hcz116_2 : w115.cell? ⟨gb138, 2, none⟩ = some (.int .i64 t146) := (blk_cell BK138.out 2).trans rfl; have hcz116_3 : w115.cell? ⟨gb138, 3, none⟩ = some (.int .i64 t147) := (blk_cell BK138.out 3).trans rfl; have hfz116_0 := blk_frozen BK138.out 0; have hfz116_1 := blk_frozen BK138.out 1; have hfz116_2 := blk_frozen BK138.out 2; have hfz116_3 := blk_frozen BK138.out 3; have hcz117_0 : w115.cell? ⟨gb139, 0, none⟩ = some (.int .i64 t148) := (blk_cell BK139.out 0).trans rfl; have hcz117_1 : w115.cell? ⟨gb139, 1, none⟩ = some (.int .i64 t149) := (blk_cell BK139.out 1).trans rfl; have hcz117_2 : w115.cell? ⟨gb139, 2, none⟩ = some (.int .i64 t150) := (blk_cell BK139.out 2).trans rfl; have hcz117_3 : w115.cell? ⟨gb139, 3, none⟩ = some (.int .i64 t151) := (blk_cell BK139.out 3).trans rfl; have hfz117_0 := blk_frozen BK139.out 0; have hfz117_1 := blk_frozen BK139.out 1; have hfz117_2 := blk_frozen BK139.out 2; have hfz117_3 := blk_frozen BK139.out 3) | ((with_reducible refine gate_callee (f := 39) rfl ?_); refine goesL_ (some 125) rfl rfl Try.func39 (by kernel_rfl) rfl #[.agg #[.int .i64 t146, .int .i64 t147], .agg #[.int .i64 t148, .int .i64 t149], .agg #[.int .i64 t150, .int .i64 t151]] rfl (by (try simp only [List.map_toArray, List.map_cons, List.map_nil]); first | done | rfl | (simp only [List.length_drop, List.length_take]; rfl)) ?_; (with_reducible refine (seg_On.calls kj73 t146 t147 t148 t149 t150 t151 true _ A104.out).mono ?_); rintro e w118 ⟨rfl, hb⟩; refine ⟨_, rfl, ?_⟩; have n0_ := Aside0.mk (blk_below (bI BK138.out) hb); have n1_ := Aside0.mk (blk_below (bI BK139.out) hb); have n2_ := Aside0.mk (below_step (by repeat with_reducible first | exact HB.out | refine bC ?_ | refine below_set ?_ GE138.out | refine below_set ?_ GE139.out) hb); clear BK138 BK139 HB; have BK138 := n0_; have BK139 := n1_; have HB := n2_; clear n0_ n1_ n2_; (try clear hb); (try clear hb2); (try clear hk); (try clear hi)))
              go_ret
              exact ⟨by first | rfl | (simp [errW_none, errW_some] <;> rfl) | (simp [*, errW_none, errW_some] <;> rfl), by repeat with_reducible first | exact HB.out | refine bC ?_ | refine below_set ?_ GE138.out | refine below_set ?_ GE139.out⟩
             ·replace c105 := Bool.eq_false_iff.mpr c105; subst c105; have H1 : (some 0) = some r := by rw [if_neg (show ¬ (false = true) by decide)] at H; exact H
              clear H; have H := H1; clear H1; obtain rfl := Option.some.inj H; have hnb119 := NB139_138.out; have hnc119 := NB138_139.out; have hcz120_0 : wc.cell? ⟨gb139, 0, none⟩ = some (.int .i64 t148) := (blk_cell BK139.out 0).trans rfl; have hcz120_1 : wc.cell? ⟨gb139, 1, none⟩ = some (.int .i64 t149) := (blk_cell BK139.out 1).trans rfl; have hcz120_2 : wc.cell? ⟨gb139, 2, none⟩ = some (.int .i64 t150) := (blk_cell BK139.out 2).trans rfl; have hcz120_3 : wc.cell? ⟨gb139, 3, none⟩ = some (.int .i64 t151) := (blk_cell BK139.out 3).trans rfl; have hfz120_0 := blk_frozen BK139.out 0; have hfz120_1 := blk_frozen BK139.out 1; have hfz120_2 := blk_frozen BK139.out 2; have hfz120_3 := blk_frozen BK139.out 3; have hcz121_0 : wc.cell? ⟨gb138, 0, none⟩ = some (.int .i64 t144) := (blk_cell BK138.out 0).trans rfl; have hcz121_1 : wc.cell? ⟨gb138, 1, none⟩ = some (.int .i64 t145) := (blk_cell BK138.out 1).trans rfl; have hcz121_2 : wc.cell? ⟨gb138, 2, none⟩ = some (.int .i64 t146) := (blk_cell BK138.out 2).trans rfl; have hcz121_3 : wc.cell? ⟨gb138, 3, none⟩ = some (.int .i64 t147) := (blk_cell BK138.out 3).trans rfl; have hfz121_0 := blk_frozen BK138.out 0; have hfz121_1 := blk_frozen BK138.out 1; have hfz121_2 := blk_frozen BK138.out 2; have hfz121_3 := blk_frozen BK138.out 3
              go_wp2_with (first | ((with_reducible refine gate_callee (f := 39) rfl ?_); refine goesL_ (some 101) rfl rfl Try.func39 (by kernel_rfl) rfl #[.agg #[.int .i64 t148, .int .i64 t149], .agg #[.int .i64 t144, .int .i64 t145], .agg #[.int .i64 t146, .int .i64 t147]] rfl (by (try simp only [List.map_toArray, List.map_cons, List.map_nil]); first | done | rfl | (simp only [List.length_drop, List.length_take]; rfl)) ?_; (with_reducible refine (seg_On.calls kj73 t148 t149 t144 t145 t146 t147 false _ A77.out).mono ?_); rintro e w122 ⟨rfl, hb⟩; refine ⟨_, rfl, ?_⟩; have n0_ := Aside0.mk (blk_below (bI BK138.out) hb); have n1_ := Aside0.mk (blk_below (bI BK139.out) hb); have n2_ := Aside0.mk (below_step (by repeat with_reducible first | exact HB.out | refine bC ?_ | refine below_set ?_ GE138.out | refine below_set ?_ GE139.out) hb); clear BK138 BK139 HB; have BK138 := n0_; have BK139 := n1_; have HB := n2_; clear n0_ n1_ n2_; (try clear hb); (try clear hb2); (try clear hk); (try clear hi); have hcz123_0 : w122.cell? ⟨gb139, 0, none⟩ = some (.int .i64 t148) := (blk_cell BK139.out 0).trans rfl; have hcz123_1 : w122.cell? ⟨gb139, 1, none⟩ = some (.int .i64 t149) := (blk_cell BK139.out 1).trans rfl; have hcz123_2 : w122.cell? ⟨gb139, 2, none⟩ = some (.int .i64 t150) := (blk_cell BK139.out 2).trans rfl; have hcz123_3 : w122.cell? ⟨gb139, 3, none⟩ = some (.int .i64 t151) := (blk_cell BK139.out 3).trans rfl; have hfz123_0 := blk_frozen BK139.out 0; have hfz123_1 := blk_frozen BK139.out 1; have hfz123_2 := blk_frozen BK139.out 2; have hfz123_3 := blk_frozen BK139.out 3; have hcz124_0 : w122.cell? ⟨gb138, 0, none⟩ = some (.int .i64 t144) := (blk_cell BK138.out 0).trans rfl; have hcz124_1 : w122.cell? ⟨gb138, 1, none⟩ = some (.int .i64 t145) := (blk_cell BK138.out 1).trans rfl; have hcz124_2 : w122.cell? ⟨gb138, 2, none⟩ = some (.int .i64 t146) := (blk_cell BK138.out 2).trans rfl; have hcz124_3 : w122.cell? ⟨gb138, 3, none⟩ = some (.int .i64 t147) := (blk_cell BK138.out 3).trans rfl; have hfz124_0 := blk_frozen BK138.out 0; have hfz124_1 := blk_frozen BK138.out 1; have hfz124_2 := blk_frozen BK138.out 2; have hfz124_3 := blk_frozen BK138.out 3) | ((with_reducible refine gate_callee (f := 39) rfl ?_); refine goesL_ (some 109) rfl rfl Try.func39 (by kernel_rfl) rfl #[.agg #[.int .i64 t150, .int .i64 t151], .agg #[.int .i64 t144, .int .i64 t145], .agg #[.int .i64 t146, .int .i64 t147]] rfl (by (try simp only [List.map_toArray, List.map_cons, List.map_nil]); first | done | rfl | (simp only [List.length_drop, List.length_take]; rfl)) ?_; (with_reducible refine (seg_On.calls kj73 t150 t151 t144 t145 t146 t147 false _ A83.out).mono ?_); rintro e w125 ⟨rfl, hb⟩; refine ⟨_, rfl, ?_⟩; have n0_ := Aside0.mk (blk_below (bI BK138.out) hb); have n1_ := Aside0.mk (blk_below (bI BK139.out) hb); have n2_ := Aside0.mk (below_step (by repeat with_reducible first | exact HB.out | refine bC ?_ | refine below_set ?_ GE138.out | refine below_set ?_ GE139.out) hb); clear BK138 BK139 HB; have BK138 := n0_; have BK139 := n1_; have HB := n2_; clear n0_ n1_ n2_; (try clear hb); (try clear hb2); (try clear hk); (try clear hi); have hcz126_0 : w125.cell? ⟨gb138, 0, none⟩ = some (.int .i64 t144) := (blk_cell BK138.out 0).trans rfl; have hcz126_1 : w125.cell? ⟨gb138, 1, none⟩ = some (.int .i64 t145) := (blk_cell BK138.out 1).trans rfl; have hcz126_2 : w125.cell? ⟨gb138, 2, none⟩ = some (.int .i64 t146) := (blk_cell BK138.out 2).trans rfl; have hcz126_3 : w125.cell? ⟨gb138, 3, none⟩ = some (.int .i64 t147) := (blk_cell BK138.out 3).trans rfl; have hfz126_0 := blk_frozen BK138.out 0; have hfz126_1 := blk_frozen BK138.out 1; have hfz126_2 := blk_frozen BK138.out 2; have hfz126_3 := blk_frozen BK138.out 3; have hcz127_0 : w125.cell? ⟨gb139, 0, none⟩ = some (.int .i64 t148) := (blk_cell BK139.out 0).trans rfl; have hcz127_1 : w125.cell? ⟨gb139, 1, none⟩ = some (.int .i64 t149) := (blk_cell BK139.out 1).trans rfl; have hcz127_2 : w125.cell? ⟨gb139, 2, none⟩ = some (.int .i64 t150) := (blk_cell BK139.out 2).trans rfl; have hcz127_3 : w125.cell? ⟨gb139, 3, none⟩ = some (.int .i64 t151) := (blk_cell BK139.out 3).trans rfl; have hfz127_0 := blk_frozen BK139.out 0; have hfz127_1 := blk_frozen BK139.out 1; have hfz127_2 := blk_frozen BK139.out 2; have hfz127_3 := blk_frozen BK139.out 3) | ((with_reducible refine gate_callee (f := 39) rfl ?_); refine goesL_ (some 117) rfl rfl Try.func39 (by kernel_rfl) rfl #[.agg #[.int .i64 t144, .int .i64 t145], .agg #[.int .i64 t148, .int .i64 t149], .agg #[.int .i64 t150, .int .i64 t151]] rfl (by (try simp only [List.map_toArray, List.map_cons, List.map_nil]); first | done | rfl | (simp only [List.length_drop, List.length_take]; rfl)) ?_; (with_reducible refine (seg_On.calls kj73 t144 t145 t148 t149 t150 t151 false _ A92.out).mono ?_); rintro e w128 ⟨rfl, hb⟩; refine ⟨_, rfl, ?_⟩; have n0_ := Aside0.mk (blk_below (bI BK138.out) hb); have n1_ := Aside0.mk (blk_below (bI BK139.out) hb); have n2_ := Aside0.mk (below_step (by repeat with_reducible first | exact HB.out | refine bC ?_ | refine below_set ?_ GE138.out | refine below_set ?_ GE139.out) hb); clear BK138 BK139 HB; have BK138 := n0_; have BK139 := n1_; have HB := n2_; clear n0_ n1_ n2_; (try clear hb); (try clear hb2); (try clear hk); (try clear hi); have hcz129_0 : w128.cell? ⟨gb138, 0, none⟩ = some (.int .i64 t144) := (blk_cell BK138.out 0).trans rfl; have hcz129_1 : w128.cell? ⟨gb138, 1, none⟩ = some (.int .i64 t145) := (blk_cell BK138.out 1).trans rfl; have hcz129_2 : w128.cell? ⟨gb138, 2, none⟩ = some (.int .i64 t146) := (blk_cell BK138.out 2).trans rfl; have hcz129_3 : w128.cell? ⟨gb138, 3, none⟩ = some (.int .i64 t147) := (blk_cell BK138.out 3).trans rfl; have hfz129_0 := blk_frozen BK138.out 0; have hfz129_1 := blk_frozen BK138.out 1; have hfz129_2 := blk_frozen BK138.out 2; have hfz129_3 := blk_frozen BK138.out 3; have hcz130_0 : w128.cell? ⟨gb139, 0, none⟩ = some (.int .i64 t148) := (blk_cell BK139.out 0).trans rfl; have hcz130_1 : w128.cell? ⟨gb139, 1, none⟩ = some (.int .i64 t149) := (blk_cell BK139.out 1).trans rfl; have hcz130_2 : w128.cell? ⟨gb139, 2, none⟩ = some (.int .i64 t150) := (blk_cell BK139.out 2).trans rfl; have hcz130_3 : w128.cell? ⟨gb139, 3, none⟩ = some (.int .i64 t151) := (blk_cell BK139.out 3).trans rfl; have hfz130_0 := blk_frozen BK139.out 0; have hfz130_1 := blk_frozen BK139.out 1; have hfz130_2 := blk_frozen BK139.out 2; have hfz130_3 := blk_frozen BK139.out 3) | ((with_reducible refine gate_callee (f := 39) rfl ?_); refine goesL_ (some 125) rfl rfl Try.func39 (by kernel_rfl) rfl #[.agg #[.int .i64 t146, .int .i64 t147], .agg #[.int .i64 t148, .int .i64 t149], .agg #[.int .i64 t150, .int .i64 t151]] rfl (by (try simp only [List.map_toArray, List.map_cons, List.map_nil]); first | done | rfl | (simp only [List.length_drop, List.length_take]; rfl)) ?_; (with_reducible refine (seg_On.calls kj73 t146 t147 t148 t149 t150 t151 false _ A104.out).mono ?_); rintro e w131 ⟨rfl, hb⟩; refine ⟨_, rfl, ?_⟩; have n0_ := Aside0.mk (blk_below (bI BK138.out) hb); have n1_ := Aside0.mk (blk_below (bI BK139.out) hb); have n2_ := Aside0.mk (below_step (by repeat with_reducible first | exact HB.out | refine bC ?_ | refine below_set ?_ GE138.out | refine below_set ?_ GE139.out) hb); clear BK138 BK139 HB; have BK138 := n0_; have BK139 := n1_; have HB := n2_; clear n0_ n1_ n2_; (try clear hb); (try clear hb2); (try clear hk); (try clear hi)))
              go_ret
              exact ⟨by first | rfl | (simp [errW_none, errW_some] <;> rfl) | (simp [*, errW_none, errW_some] <;> rfl), by repeat with_reducible first | exact HB.out | refine bC ?_ | refine below_set ?_ GE138.out | refine below_set ?_ GE139.out⟩

end Go.Proofs.Ytggafoldccikdaa.PAll
