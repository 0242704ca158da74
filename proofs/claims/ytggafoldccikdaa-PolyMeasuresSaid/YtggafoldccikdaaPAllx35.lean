import Derived.Test.YtggafoldccikdaaPAllx0
import Derived.Test.YtggafoldccikdaaPAllx1
import Derived.Test.YtggafoldccikdaaPAllx31
import Derived.Test.YtggafoldccikdaaPAllx32
import Derived.Test.YtggafoldccikdaaPAllx33
namespace Go.Proofs.Ytggafoldccikdaa.PAll
open Go.RowKit Go.Proofs.YtggafoldccikdaaW.PrintWords Go.Proofs.YtggafoldccikdaaW.PrintLast Go.Proofs.YtggafoldccikdaaW.PrintMore
attribute [local go_sem] max2_int min2_int max_two min_two max_three min_three max_four min_four
set_option linter.unusedVariables false
set_option linter.unusedSimpArgs false
attribute [local irreducible] Calls

attribute [local go_sem high] eqA30
/-! ### mapmakerref09_Relate: function 33 -/
mutual
def mapmakerref09_Relate.j0 : Nat → Bool → Int → Int → Int → Int → Int → Int → Int → Int → Option (Int)
 | 0, _, _, _, _, _, _, _, _, _ => none
 | k + 1, x41, x276000, x276001, x276002, x276003, x277000, x277001, x277002, x277003 => if x41 = true then (some 0) else ((mapmakerref09_Turn.f x276000 x276001 x276002 x276003 x277000 x277001).bind fun t279 => ((mapmakerref09_sign.f t279).bind fun t280 => ((mapmakerref09_Turn.f x276000 x276001 x276002 x276003 x277002 x277003).bind fun t281 => ((mapmakerref09_sign.f t281).bind fun t282 => ((mapmakerref09_Turn.f x277000 x277001 x277002 x277003 x276000 x276001).bind fun t283 => ((mapmakerref09_sign.f t283).bind fun t284 => ((mapmakerref09_Turn.f x277000 x277001 x277002 x277003 x276002 x276003).bind fun t285 => ((mapmakerref09_sign.f t285).bind fun t286 => (if (wrap64 (t280 * t282)) < 0 then (mapmakerref09_Relate.j1 k (decide ((wrap64 (t284 * t286)) < 0)) x276000 x276001 x276002 x276003 x277000 x277001 x277002 x277003) else (mapmakerref09_Relate.j1 k false x276000 x276001 x276002 x276003 x277000 x277001 x277002 x277003))))))))))
def mapmakerref09_Relate.j1 : Nat → Bool → Int → Int → Int → Int → Int → Int → Int → Int → Option (Int)
 | 0, _, _, _, _, _, _, _, _, _ => none
 | k + 1, x83, x276000, x276001, x276002, x276003, x277000, x277001, x277002, x277003 => if x83 = true then (some 2) else (mapmakerref09_Relate.l0 k (([(⟨x276000, x276001⟩ : S30), (⟨x276002, x276003⟩ : S30), (⟨x277000, x277001⟩ : S30), (⟨x277002, x277003⟩ : S30)] : List (S30))) ([] : List (S30)) 0 x276000 x276001 x276002 x276003 x277000 x277001 x277002 x277003)
def mapmakerref09_Relate.l0 : Nat → List (S30) → List (S30) → Int → Int → Int → Int → Int → Int → Int → Int → Int → Option (Int)
 | 0, _, _, _, _, _, _, _, _, _, _, _ => none
 | k + 1, x9, x10, x11, x276000, x276001, x276002, x276003, x277000, x277001, x277002, x277003 => if x11 < 4 then (if 0 ≤ x11 then (if x11 < (x9.length : Int) then ((mapmakerref09_On.f ((rd_T30 x9 x11).f0) ((rd_T30 x9 x11).f1) x276000 x276001 x276002 x276003).bind fun t291 => (if t291 = true then ((mapmakerref09_On.f ((rd_T30 x9 x11).f0) ((rd_T30 x9 x11).f1) x277000 x277001 x277002 x277003).bind fun t293 => (mapmakerref09_Relate.j3 k x9 x10 x11 (!t293) x276000 x276001 x276002 x276003 x277000 x277001 x277002 x277003)) else (mapmakerref09_Relate.j3 k x9 x10 x11 true x276000 x276001 x276002 x276003 x277000 x277001 x277002 x277003))) else (none)) else (none)) else (if (x10.length : Int) > 1 then (some 3) else (if (x10.length : Int) = 1 then (some 1) else (some 0)))
def mapmakerref09_Relate.j3 : Nat → List (S30) → List (S30) → Int → Bool → Int → Int → Int → Int → Int → Int → Int → Int → Option (Int)
 | 0, _, _, _, _, _, _, _, _, _, _, _, _ => none
 | k + 1, x9, x10, x11, x118, x276000, x276001, x276002, x276003, x277000, x277001, x277002, x277003 => if x118 = true then (mapmakerref09_Relate.l0 k x9 x10 (wrap64 (x11 + 1)) x276000 x276001 x276002 x276003 x277000 x277001 x277002 x277003) else (mapmakerref09_Relate.l1 k x9 x10 x11 false 0 x276000 x276001 x276002 x276003 x277000 x277001 x277002 x277003)
def mapmakerref09_Relate.l1 : Nat → List (S30) → List (S30) → Int → Bool → Int → Int → Int → Int → Int → Int → Int → Int → Int → Option (Int)
 | 0, _, _, _, _, _, _, _, _, _, _, _, _, _ => none
 | k + 1, x9, x10, x11, x12, x13, x276000, x276001, x276002, x276003, x277000, x277001, x277002, x277003 => if x13 < (x10.length : Int) then (if x12 = true then (mapmakerref09_Relate.l1 k x9 x10 x11 true (wrap64 (x13 + 1)) x276000 x276001 x276002 x276003 x277000 x277001 x277002 x277003) else (if 0 ≤ x13 then (if 0 ≤ x11 then (if x11 < (x9.length : Int) then (mapmakerref09_Relate.l1 k x9 x10 x11 (((rd_T30 x10 x13).f0) == ((rd_T30 x9 x11).f0) && (((rd_T30 x10 x13).f1) == ((rd_T30 x9 x11).f1))) (wrap64 (x13 + 1)) x276000 x276001 x276002 x276003 x277000 x277001 x277002 x277003) else (none)) else (none)) else (none))) else (if x12 = true then (mapmakerref09_Relate.l0 k x9 x10 (wrap64 (x11 + 1)) x276000 x276001 x276002 x276003 x277000 x277001 x277002 x277003) else (if 0 ≤ x11 then (if x11 < (x9.length : Int) then (if x10.length < 8796093022208 then (mapmakerref09_Relate.l0 k x9 (x10 ++ [(⟨(rd_T30 x9 x11).f0, (rd_T30 x9 x11).f1⟩ : S30)]) (wrap64 (x11 + 1)) x276000 x276001 x276002 x276003 x277000 x277001 x277002 x277003) else (none)) else (none)) else (none)))
end
def mapmakerref09_Relate.f (k : Nat) (a0_0 : Int) (a0_1 : Int) (a0_2 : Int) (a0_3 : Int) (a1_0 : Int) (a1_1 : Int) (a1_2 : Int) (a1_3 : Int) : Option (Int) := (mapmakerref09_three.f a0_0 a0_1 a0_2 a0_3 a1_0 a1_1).bind fun t277 => (if t277 = true then ((mapmakerref08_Valid.f a1_2 a1_3).bind fun t278 => (if t278 = true then (if (a0_0 == a0_2 && (a0_1 == a0_3)) = true then (mapmakerref09_Relate.j0 k true a0_0 a0_1 a0_2 a0_3 a1_0 a1_1 a1_2 a1_3) else (mapmakerref09_Relate.j0 k (a1_0 == a1_2 && (a1_1 == a1_3)) a0_0 a0_1 a0_2 a0_3 a1_0 a1_1 a1_2 a1_3)) else (mapmakerref09_Relate.j0 k true a0_0 a0_1 a0_2 a0_3 a1_0 a1_1 a1_2 a1_3))) else (mapmakerref09_Relate.j0 k true a0_0 a0_1 a0_2 a0_3 a1_0 a1_1 a1_2 a1_3))
theorem mapmakerref09_Relate.mono_l : ∀ k, (∀ y0 y1 y2 y3 y4 y5 y6 y7 y8, LeO (mapmakerref09_Relate.j0 k y0 y1 y2 y3 y4 y5 y6 y7 y8) (mapmakerref09_Relate.j0 (k + 1) y0 y1 y2 y3 y4 y5 y6 y7 y8)) ∧ (∀ y0 y1 y2 y3 y4 y5 y6 y7 y8, LeO (mapmakerref09_Relate.j1 k y0 y1 y2 y3 y4 y5 y6 y7 y8) (mapmakerref09_Relate.j1 (k + 1) y0 y1 y2 y3 y4 y5 y6 y7 y8)) ∧ (∀ y0 y1 y2 y3 y4 y5 y6 y7 y8 y9 y10, LeO (mapmakerref09_Relate.l0 k y0 y1 y2 y3 y4 y5 y6 y7 y8 y9 y10) (mapmakerref09_Relate.l0 (k + 1) y0 y1 y2 y3 y4 y5 y6 y7 y8 y9 y10)) ∧ (∀ y0 y1 y2 y3 y4 y5 y6 y7 y8 y9 y10 y11, LeO (mapmakerref09_Relate.j3 k y0 y1 y2 y3 y4 y5 y6 y7 y8 y9 y10 y11) (mapmakerref09_Relate.j3 (k + 1) y0 y1 y2 y3 y4 y5 y6 y7 y8 y9 y10 y11)) ∧ (∀ y0 y1 y2 y3 y4 y5 y6 y7 y8 y9 y10 y11 y12, LeO (mapmakerref09_Relate.l1 k y0 y1 y2 y3 y4 y5 y6 y7 y8 y9 y10 y11 y12) (mapmakerref09_Relate.l1 (k + 1) y0 y1 y2 y3 y4 y5 y6 y7 y8 y9 y10 y11 y12))
 | 0 => ⟨fun _ _ _ _ _ _ _ _ _ r h => by simp [mapmakerref09_Relate.j0] at h, fun _ _ _ _ _ _ _ _ _ r h => by simp [mapmakerref09_Relate.j1] at h, fun _ _ _ _ _ _ _ _ _ _ _ r h => by simp [mapmakerref09_Relate.l0] at h, fun _ _ _ _ _ _ _ _ _ _ _ _ r h => by simp [mapmakerref09_Relate.j3] at h, fun _ _ _ _ _ _ _ _ _ _ _ _ _ r h => by simp [mapmakerref09_Relate.l1] at h⟩
 | k + 1 => by
  obtain ⟨ih0, ih1, ih2, ih3, ih4⟩ := mapmakerref09_Relate.mono_l k
  refine ⟨?_, ?_, ?_, ?_, ?_⟩
  ·intro y0 y1 y2 y3 y4 y5 y6 y7 y8
   unfold mapmakerref09_Relate.j0
   repeat' first
   | (with_reducible exact ih0 _ _ _ _ _ _ _ _ _)
   | (with_reducible exact ih1 _ _ _ _ _ _ _ _ _)
   | (with_reducible exact ih2 _ _ _ _ _ _ _ _ _ _ _)
   | (with_reducible exact ih3 _ _ _ _ _ _ _ _ _ _ _ _)
   | (with_reducible exact ih4 _ _ _ _ _ _ _ _ _ _ _ _ _)
   | (with_reducible exact LeO.refl _)
   | (with_reducible exact LeO.none _)
   | (with_reducible refine LeO.ite ?_ ?_)
   | (with_reducible refine LeO.bind ?_ (fun _ => ?_))
   | exact ih0 _ _ _ _ _ _ _ _ _
   | exact ih1 _ _ _ _ _ _ _ _ _
   | exact ih2 _ _ _ _ _ _ _ _ _ _ _
   | exact ih3 _ _ _ _ _ _ _ _ _ _ _ _
   | exact ih4 _ _ _ _ _ _ _ _ _ _ _ _ _
   | exact LeO.none _
   | refine LeO.ite ?_ ?_
   | refine LeO.bind ?_ (fun _ => ?_)
  ·intro y0 y1 y2 y3 y4 y5 y6 y7 y8
   unfold mapmakerref09_Relate.j1
   repeat' first
   | (with_reducible exact ih0 _ _ _ _ _ _ _ _ _)
   | (with_reducible exact ih1 _ _ _ _ _ _ _ _ _)
   | (with_reducible exact ih2 _ _ _ _ _ _ _ _ _ _ _)
   | (with_reducible exact ih3 _ _ _ _ _ _ _ _ _ _ _ _)
   | (with_reducible exact ih4 _ _ _ _ _ _ _ _ _ _ _ _ _)
   | (with_reducible exact LeO.refl _)
   | (with_reducible exact LeO.none _)
   | (with_reducible refine LeO.ite ?_ ?_)
   | (with_reducible refine LeO.bind ?_ (fun _ => ?_))
   | exact ih0 _ _ _ _ _ _ _ _ _
   | exact ih1 _ _ _ _ _ _ _ _ _
   | exact ih2 _ _ _ _ _ _ _ _ _ _ _
   | exact ih3 _ _ _ _ _ _ _ _ _ _ _ _
   | exact ih4 _ _ _ _ _ _ _ _ _ _ _ _ _
   | exact LeO.none _
   | refine LeO.ite ?_ ?_
   | refine LeO.bind ?_ (fun _ => ?_)
  ·intro y0 y1 y2 y3 y4 y5 y6 y7 y8 y9 y10
   unfold mapmakerref09_Relate.l0
   repeat' first
   | (with_reducible exact ih0 _ _ _ _ _ _ _ _ _)
   | (with_reducible exact ih1 _ _ _ _ _ _ _ _ _)
   | (with_reducible exact ih2 _ _ _ _ _ _ _ _ _ _ _)
   | (with_reducible exact ih3 _ _ _ _ _ _ _ _ _ _ _ _)
   | (with_reducible exact ih4 _ _ _ _ _ _ _ _ _ _ _ _ _)
   | (with_reducible exact LeO.refl _)
   | (with_reducible exact LeO.none _)
   | (with_reducible refine LeO.ite ?_ ?_)
   | (with_reducible refine LeO.bind ?_ (fun _ => ?_))
   | exact ih0 _ _ _ _ _ _ _ _ _
   | exact ih1 _ _ _ _ _ _ _ _ _
   | exact ih2 _ _ _ _ _ _ _ _ _ _ _
   | exact ih3 _ _ _ _ _ _ _ _ _ _ _ _
   | exact ih4 _ _ _ _ _ _ _ _ _ _ _ _ _
   | exact LeO.none _
   | refine LeO.ite ?_ ?_
   | refine LeO.bind ?_ (fun _ => ?_)
  ·intro y0 y1 y2 y3 y4 y5 y6 y7 y8 y9 y10 y11
   unfold mapmakerref09_Relate.j3
   repeat' first
   | (with_reducible exact ih0 _ _ _ _ _ _ _ _ _)
   | (with_reducible exact ih1 _ _ _ _ _ _ _ _ _)
   | (with_reducible exact ih2 _ _ _ _ _ _ _ _ _ _ _)
   | (with_reducible exact ih3 _ _ _ _ _ _ _ _ _ _ _ _)
   | (with_reducible exact ih4 _ _ _ _ _ _ _ _ _ _ _ _ _)
   | (with_reducible exact LeO.refl _)
   | (with_reducible exact LeO.none _)
   | (with_reducible refine LeO.ite ?_ ?_)
   | (with_reducible refine LeO.bind ?_ (fun _ => ?_))
   | exact ih0 _ _ _ _ _ _ _ _ _
   | exact ih1 _ _ _ _ _ _ _ _ _
   | exact ih2 _ _ _ _ _ _ _ _ _ _ _
   | exact ih3 _ _ _ _ _ _ _ _ _ _ _ _
   | exact ih4 _ _ _ _ _ _ _ _ _ _ _ _ _
   | exact LeO.none _
   | refine LeO.ite ?_ ?_
   | refine LeO.bind ?_ (fun _ => ?_)
  ·intro y0 y1 y2 y3 y4 y5 y6 y7 y8 y9 y10 y11 y12
   unfold mapmakerref09_Relate.l1
   repeat' first
   | (with_reducible exact ih0 _ _ _ _ _ _ _ _ _)
   | (with_reducible exact ih1 _ _ _ _ _ _ _ _ _)
   | (with_reducible exact ih2 _ _ _ _ _ _ _ _ _ _ _)
   | (with_reducible exact ih3 _ _ _ _ _ _ _ _ _ _ _ _)
   | (with_reducible exact ih4 _ _ _ _ _ _ _ _ _ _ _ _ _)
   | (with_reducible exact LeO.refl _)
   | (with_reducible exact LeO.none _)
   | (with_reducible refine LeO.ite ?_ ?_)
   | (with_reducible refine LeO.bind ?_ (fun _ => ?_))
   | exact ih0 _ _ _ _ _ _ _ _ _
   | exact ih1 _ _ _ _ _ _ _ _ _
   | exact ih2 _ _ _ _ _ _ _ _ _ _ _
   | exact ih3 _ _ _ _ _ _ _ _ _ _ _ _
   | exact ih4 _ _ _ _ _ _ _ _ _ _ _ _ _
   | exact LeO.none _
   | refine LeO.ite ?_ ?_
   | refine LeO.bind ?_ (fun _ => ?_)
theorem mapmakerref09_Relate.mono : ∀ a0 a1 a2 a3 a4 a5 a6 a7 k, LeO (mapmakerref09_Relate.f k a0 a1 a2 a3 a4 a5 a6 a7) (mapmakerref09_Relate.f (k + 1) a0 a1 a2 a3 a4 a5 a6 a7) := by
 intro a0 a1 a2 a3 a4 a5 a6 a7 k
 obtain ⟨ih0, ih1, ih2, ih3, ih4⟩ := mapmakerref09_Relate.mono_l k
 unfold mapmakerref09_Relate.f
 repeat' first
   | (with_reducible exact ih0 _ _ _ _ _ _ _ _ _)
   | (with_reducible exact ih1 _ _ _ _ _ _ _ _ _)
   | (with_reducible exact ih2 _ _ _ _ _ _ _ _ _ _ _)
   | (with_reducible exact ih3 _ _ _ _ _ _ _ _ _ _ _ _)
   | (with_reducible exact ih4 _ _ _ _ _ _ _ _ _ _ _ _ _)
   | (with_reducible exact LeO.refl _)
   | (with_reducible exact LeO.none _)
   | (with_reducible refine LeO.ite ?_ ?_)
   | (with_reducible refine LeO.bind ?_ (fun _ => ?_))
   | exact ih0 _ _ _ _ _ _ _ _ _
   | exact ih1 _ _ _ _ _ _ _ _ _
   | exact ih2 _ _ _ _ _ _ _ _ _ _ _
   | exact ih3 _ _ _ _ _ _ _ _ _ _ _ _
   | exact ih4 _ _ _ _ _ _ _ _ _ _ _ _ _
   | exact LeO.none _
   | refine LeO.ite ?_ ?_
   | refine LeO.bind ?_ (fun _ => ?_)
def mapmakerref09_Relate.T3 : Bool × List (List Nat × List Nat) := (true, [([], []), ([0], [0]), ([], []), ([2], [2]), ([], []), ([4], [4]), ([1, 3, 5], [1, 3, 5]), ([6, 6], [6]), ([], []), ([8], [8]), ([], []), ([10], [10]), ([], []), ([12], [12]), ([9, 11, 13, 7], [9, 11, 13]), ([14, 14], [14]), ([7, 15, 0, 1, 2, 3, 4, 5, 6, 7], [7]), ([15, 16, 0, 1, 2, 3, 4, 5, 6, 7, 8, 9, 10, 11, 12, 13, 14, 15, 16], [15])])
def mapmakerref09_Relate.B3 : List Nat := [0, 1, 0, 4, 0, 16, 63, 127, 0, 256, 0, 1024, 0, 4096, 16383, 32767, 65535, 131071]
theorem mapmakerref09_Relate.tab3 : rtab .any (opsOf Try.f33 3) = mapmakerref09_Relate.T3 := by kernel_rfl
theorem mapmakerref09_Relate.bits3 : waitsOk mapmakerref09_Relate.T3.2 mapmakerref09_Relate.B3 = true := by kernel_rfl
def mapmakerref09_Relate.T4 : Bool × List (List Nat × List Nat) := (true, [([], []), ([0], [0]), ([], []), ([2], [2]), ([], []), ([4], [4]), ([1, 3, 5], [1, 3, 5]), ([6, 6], [6]), ([], []), ([8], [8]), ([], []), ([10], [10]), ([], []), ([12], [12]), ([9, 11, 13, 7], [9, 11, 13]), ([14, 14], [14]), ([7, 15, 0, 1, 2, 3, 4, 5, 6, 7], [7]), ([15, 16, 0, 1, 2, 3, 4, 5, 6, 7, 8, 9, 10, 11, 12, 13, 14, 15, 16], [15])])
def mapmakerref09_Relate.B4 : List Nat := [0, 1, 0, 4, 0, 16, 63, 127, 0, 256, 0, 1024, 0, 4096, 16383, 32767, 65535, 131071]
theorem mapmakerref09_Relate.tab4 : rtab .any (opsOf Try.f33 4) = mapmakerref09_Relate.T4 := by kernel_rfl
theorem mapmakerref09_Relate.bits4 : waitsOk mapmakerref09_Relate.T4.2 mapmakerref09_Relate.B4 = true := by kernel_rfl
def mapmakerref09_Relate.T12 : Bool × List (List Nat × List Nat) := (true, [([], []), ([], []), ([0, 1], [0, 1]), ([2], [2]), ([], []), ([4], [4]), ([], []), ([6], [6]), ([3, 5, 7], [3, 5, 7]), ([8], [8]), ([9, 8], [9]), ([10], [10]), ([10], [10]), ([11, 12, 10], [10, 11, 12]), ([13, 10], [10, 13]), ([10], [10]), ([15, 10], [10, 15]), ([10], [10]), ([17, 10], [10, 17]), ([14, 16, 18, 10, 10], [10, 14, 16, 18]), ([19, 10], [10, 19]), ([10, 20], [10, 20])])
def mapmakerref09_Relate.B12 : List Nat := [0, 0, 3, 7, 0, 16, 0, 64, 255, 511, 1023, 2047, 2047, 8191, 16383, 2047, 34815, 2047, 133119, 524287, 1048575, 2097151]
theorem mapmakerref09_Relate.tab12 : rtab .any (opsOf Try.f33 12) = mapmakerref09_Relate.T12 := by kernel_rfl
theorem mapmakerref09_Relate.bits12 : waitsOk mapmakerref09_Relate.T12.2 mapmakerref09_Relate.B12 = true := by kernel_rfl
def mapmakerref09_Relate.T17 : Bool × List (List Nat × List Nat) := (true, [([], []), ([0], [0]), ([1], [1]), ([1], [1]), ([2, 3, 1], [1, 2, 3]), ([4, 1], [1, 4]), ([1], [1]), ([1], [1]), ([6, 7, 1], [1, 6, 7]), ([8, 1], [1, 8]), ([5, 9, 1], [1, 5, 9]), ([1, 10], [1, 10]), ([11, 1, 0, 1, 2, 3, 4, 5, 6, 7, 8, 9, 10, 11], [0, 11])])
def mapmakerref09_Relate.B17 : List Nat := [0, 1, 3, 3, 15, 31, 3, 3, 195, 451, 1023, 2047, 4095]
theorem mapmakerref09_Relate.tab17 : rtab .any (opsOf Try.f33 17) = mapmakerref09_Relate.T17 := by kernel_rfl
theorem mapmakerref09_Relate.bits17 : waitsOk mapmakerref09_Relate.T17.2 mapmakerref09_Relate.B17 = true := by kernel_rfl
set_option maxHeartbeats 8000000 in
set_option maxRecDepth 100000 in
theorem mapmakerref09_Relate.calls (k : Nat) (a0_0 : Int) (a0_1 : Int) (a0_2 : Int) (a0_3 : Int) (a1_0 : Int) (a1_1 : Int) (a1_2 : Int) (a1_3 : Int) (r : Int) (w : World) (h : mapmakerref09_Relate.f k a0_0 a0_1 a0_2 a0_3 a1_0 a1_1 a1_2 a1_3 = some r) :
  Calls Try.prog 33 #[.agg #[.int .i64 a0_0, .int .i64 a0_1, .int .i64 a0_2, .int .i64 a0_3], .agg #[.int .i64 a1_0, .int .i64 a1_1, .int .i64 a1_2, .int .i64 a1_3]] w fun e w' => e = .returned (.int .i64 r) ∧ Below w.heap.size w w' := by
 have hu45 := Try.underlying45; have hu30 := Try.underlying30; have HB := Aside0.mk (Below.refl w.heap.size w); have H : ((mapmakerref09_three.f a0_0 a0_1 a0_2 a0_3 a1_0 a1_1).bind fun t277 => (if t277 = true then ((mapmakerref08_Valid.f a1_2 a1_3).bind fun t278 => (if t278 = true then (if (a0_0 == a0_2 && (a0_1 == a0_3)) = true then (mapmakerref09_Relate.j0 k true a0_0 a0_1 a0_2 a0_3 a1_0 a1_1 a1_2 a1_3) else (mapmakerref09_Relate.j0 k (a1_0 == a1_2 && (a1_1 == a1_3)) a0_0 a0_1 a0_2 a0_3 a1_0 a1_1 a1_2 a1_3)) else (mapmakerref09_Relate.j0 k true a0_0 a0_1 a0_2 a0_3 a1_0 a1_1 a1_2 a1_3))) else (mapmakerref09_Relate.j0 k true a0_0 a0_1 a0_2 a0_3 a1_0 a1_1 a1_2 a1_3))) = some r := h; clear h; have HC3 := Aside0.mk H; clear H
 go_enter Try.func33, Try.ntmps33
 go_upto_region 1 with (first | ((with_reducible refine gate_dst (N := 2) rfl ?_); refine box_event ?hg (N := 2) ?hd (cs := #[.int .i64 a0_0, .int .i64 a0_1, .int .i64 a0_2, .int .i64 a0_3]) (t := 45) ?hr ?_; (case hd => rfl); (case hg => rfl); (case hr => first | (go_simp; done) | (go_simp; rfl)); intro gb275 hg w4 hbox hb; have n0_ := Aside0.mk (below_step (bB HB.out) hb); have n1_ := Aside0.mk (hbox); have n2_ := Aside0.mk ((by rw [hg]; exact (below_size (bB HB.out)) : w.heap.size ≤ gb275)); have n3_ := n2_; clear HB; have HB := n0_; have BK275 := n1_; have GW275 := n2_; have GE275 := n3_; clear n0_ n1_ n2_ n3_ hb hbox hg) | ((with_reducible refine gate_dst (N := 3) rfl ?_); refine box_event ?hg (N := 3) ?hd (cs := #[.int .i64 a1_0, .int .i64 a1_1, .int .i64 a1_2, .int .i64 a1_3]) (t := 45) ?hr ?_; (case hd => rfl); (case hg => rfl); (case hr => first | (go_simp; done) | (go_simp; rfl)); intro gb276 hg w5 hbox hb; have n0_ := Aside0.mk (blk_below (bI BK275.out) hb); have n1_ := Aside0.mk (below_step (by repeat with_reducible first | exact HB.out | refine bC ?_ | apply pw_below_drewN | refine below_set ?_ GE275.out) hb); have n2_ := Aside0.mk (hbox); have n3_ := Aside0.mk ((by rw [hg]; exact (below_size (by repeat with_reducible first | exact HB.out | refine bC ?_ | refine below_set ?_ GE275.out)) : w.heap.size ≤ gb276)); have n4_ := n3_; have n5_ := Aside0.mk ((by rw [hg]; exact Nat.ne_of_lt (blk_lt (bI BK275.out)) : gb275 ≠ gb276)); have n6_ : Aside0 (gb276 ≠ gb275) := ⟨Ne.symm n5_.out⟩; clear BK275 HB; have BK275 := n0_; have HB := n1_; have BK276 := n2_; have GW276 := n3_; have GE276 := n4_; have NB275_276 := n5_; have NB276_275 := n6_; clear n0_ n1_ n2_ n3_ n4_ n5_ n6_ hb hbox hg))
 (try simp only [Act.put, List.setIfInBounds_toArray, List.set_cons_zero, List.set_cons_succ])
 go_cut [41] (fun v41 wc => ∃ (kq : Nat) (x41_2 : Bool), v41 = .bool x41_2 ∧ Aside0 (mapmakerref09_Relate.j0 kq x41_2 a0_0 a0_1 a0_2 a0_3 a1_0 a1_1 a1_2 a1_3 = some r) ∧ Aside0 (kq ≤ k) ∧ Aside0 (wc.heap[gb275]? = some (.cells #[.int .i64 a0_0, .int .i64 a0_1, .int .i64 a0_2, .int .i64 a0_3] 45 (0, 0))) ∧ Aside0 (wc.heap[gb276]? = some (.cells #[.int .i64 a1_0, .int .i64 a1_1, .int .i64 a1_2, .int .i64 a1_3] 45 (0, 0))) ∧ Aside0 (Below w.heap.size w wc))
 case first =>
  have H := HC3.out; clear HC3; replace H := Option.bind_eq_some_iff.mp H; obtain ⟨t277, A60, H⟩ := H; replace H : (if t277 = true then ((mapmakerref08_Valid.f a1_2 a1_3).bind fun t278 => (if t278 = true then (if (a0_0 == a0_2 && (a0_1 == a0_3)) = true then (mapmakerref09_Relate.j0 k true a0_0 a0_1 a0_2 a0_3 a1_0 a1_1 a1_2 a1_3) else (mapmakerref09_Relate.j0 k (a1_0 == a1_2 && (a1_1 == a1_3)) a0_0 a0_1 a0_2 a0_3 a1_0 a1_1 a1_2 a1_3)) else (mapmakerref09_Relate.j0 k true a0_0 a0_1 a0_2 a0_3 a1_0 a1_1 a1_2 a1_3))) else (mapmakerref09_Relate.j0 k true a0_0 a0_1 a0_2 a0_3 a1_0 a1_1 a1_2 a1_3)) = some r := H; have A6 := Aside0.mk A60; clear A60
  by_cases c7 : t277 = true
  ·subst c7; have H1 : ((mapmakerref08_Valid.f a1_2 a1_3).bind fun t278 => (if t278 = true then (if (a0_0 == a0_2 && (a0_1 == a0_3)) = true then (mapmakerref09_Relate.j0 k true a0_0 a0_1 a0_2 a0_3 a1_0 a1_1 a1_2 a1_3) else (mapmakerref09_Relate.j0 k (a1_0 == a1_2 && (a1_1 == a1_3)) a0_0 a0_1 a0_2 a0_3 a1_0 a1_1 a1_2 a1_3)) else (mapmakerref09_Relate.j0 k true a0_0 a0_1 a0_2 a0_3 a1_0 a1_1 a1_2 a1_3))) = some r := by rw [if_pos rfl] at H; exact H
   clear H; have H := H1; clear H1; replace H := Option.bind_eq_some_iff.mp H; obtain ⟨t278, A80, H⟩ := H; replace H : (if t278 = true then (if (a0_0 == a0_2 && (a0_1 == a0_3)) = true then (mapmakerref09_Relate.j0 k true a0_0 a0_1 a0_2 a0_3 a1_0 a1_1 a1_2 a1_3) else (mapmakerref09_Relate.j0 k (a1_0 == a1_2 && (a1_1 == a1_3)) a0_0 a0_1 a0_2 a0_3 a1_0 a1_1 a1_2 a1_3)) else (mapmakerref09_Relate.j0 k true a0_0 a0_1 a0_2 a0_3 a1_0 a1_1 a1_2 a1_3)) = some r := H; have A8 := Aside0.mk A80; clear A80
   by_cases c9 : t278 = true
   ·subst c9; have H1 : (if (a0_0 == a0_2 && (a0_1 == a0_3)) = true then (mapmakerref09_Relate.j0 k true a0_0 a0_1 a0_2 a0_3 a1_0 a1_1 a1_2 a1_3) else (mapmakerref09_Relate.j0 k (a1_0 == a1_2 && (a1_1 == a1_3)) a0_0 a0_1 a0_2 a0_3 a1_0 a1_1 a1_2 a1_3)) = some r := by rw [if_pos rfl] at H; exact H
    clear H; have H := H1; clear H1
    by_cases c10 : (a0_0 == a0_2 && (a0_1 == a0_3)) = true
    ·rw [if_pos c10] at H
     have c10b0 : (a0_0 == a0_2 && (a0_1 == a0_3)) = true := c10; (try (have c10b1 : decide (a0_0 = a0_2 && (a0_1 == a0_3)) = true := by simpa using c10)); (try (have c10b2 : (a0_0 == a0_2 && (a0_1 == a0_3)) = true := by simpa using c10)); clear c10; (first | rw [c10b0] | (simp only [i64_w, i32_w]; rw [c10b0]) | skip); have H' := Aside0.mk H; clear H; have hnb11 := NB275_276.out; have hnc11 := NB276_275.out; have hcz12_0 : w5.cell? ⟨gb275, 0, none⟩ = some (.int .i64 a0_0) := (blk_cell BK275.out 0).trans rfl; have hcz12_1 : w5.cell? ⟨gb275, 1, none⟩ = some (.int .i64 a0_1) := (blk_cell BK275.out 1).trans rfl; have hcz12_2 : w5.cell? ⟨gb275, 2, none⟩ = some (.int .i64 a0_2) := (blk_cell BK275.out 2).trans rfl; have hcz12_3 : w5.cell? ⟨gb275, 3, none⟩ = some (.int .i64 a0_3) := (blk_cell BK275.out 3).trans rfl; have hfz12_0 := blk_frozen BK275.out 0; have hfz12_1 := blk_frozen BK275.out 1; have hfz12_2 := blk_frozen BK275.out 2; have hfz12_3 := blk_frozen BK275.out 3; have hcz13_0 : w5.cell? ⟨gb276, 0, none⟩ = some (.int .i64 a1_0) := (blk_cell BK276.out 0).trans rfl; have hcz13_1 : w5.cell? ⟨gb276, 1, none⟩ = some (.int .i64 a1_1) := (blk_cell BK276.out 1).trans rfl; have hcz13_2 : w5.cell? ⟨gb276, 2, none⟩ = some (.int .i64 a1_2) := (blk_cell BK276.out 2).trans rfl; have hcz13_3 : w5.cell? ⟨gb276, 3, none⟩ = some (.int .i64 a1_3) := (blk_cell BK276.out 3).trans rfl; have hfz13_0 := blk_frozen BK276.out 0; have hfz13_1 := blk_frozen BK276.out 1; have hfz13_2 := blk_frozen BK276.out 2; have hfz13_3 := blk_frozen BK276.out 3
     go_wp2_with (first | ((with_reducible refine gate_callee (f := 54) rfl ?_); refine goesL_ (some 20) rfl rfl Try.func54 (by kernel_rfl) rfl #[.agg #[.int .i64 a0_0, .int .i64 a0_1], .agg #[.int .i64 a0_2, .int .i64 a0_3], .agg #[.int .i64 a1_0, .int .i64 a1_1]] rfl (by (try simp only [List.map_toArray, List.map_cons, List.map_nil]); first | done | rfl | (simp only [List.length_drop, List.length_take]; rfl)) ?_; (with_reducible refine (mapmakerref09_three.calls a0_0 a0_1 a0_2 a0_3 a1_0 a1_1 true _ A6.out).mono ?_); rintro e w14 ⟨rfl, hb⟩; refine ⟨_, rfl, ?_⟩; have n0_ := Aside0.mk (blk_below (bI BK275.out) hb); have n1_ := Aside0.mk (blk_below (bI BK276.out) hb); have n2_ := Aside0.mk (below_step (by repeat with_reducible first | exact HB.out | refine bC ?_ | apply pw_below_drewN | refine below_set ?_ GE275.out | refine below_set ?_ GE276.out) hb); clear BK275 BK276 HB; have BK275 := n0_; have BK276 := n1_; have HB := n2_; clear n0_ n1_ n2_; (try clear hb); (try clear hb2); (try clear hk); (try clear hi); have hcz15_0 : w14.cell? ⟨gb276, 0, none⟩ = some (.int .i64 a1_0) := (blk_cell BK276.out 0).trans rfl; have hcz15_1 : w14.cell? ⟨gb276, 1, none⟩ = some (.int .i64 a1_1) := (blk_cell BK276.out 1).trans rfl; have hcz15_2 : w14.cell? ⟨gb276, 2, none⟩ = some (.int .i64 a1_2) := (blk_cell BK276.out 2).trans rfl; have hcz15_3 : w14.cell? ⟨gb276, 3, none⟩ = some (.int .i64 a1_3) := (blk_cell BK276.out 3).trans rfl; have hfz15_0 := blk_frozen BK276.out 0; have hfz15_1 := blk_frozen BK276.out 1; have hfz15_2 := blk_frozen BK276.out 2; have hfz15_3 := blk_frozen BK276.out 3) | (go_at_call 41; (with_reducible refine (mapmakerref08_Valid.calls a1_2 a1_3 true _ A8.out).mono ?_); rintro e w16 ⟨rfl, hb⟩; have n0_ := Aside0.mk (blk_below (bI BK275.out) hb); have n1_ := Aside0.mk (blk_below (bI BK276.out) hb); have n2_ := Aside0.mk (below_step (by repeat with_reducible first | exact HB.out | refine bC ?_ | apply pw_below_drewN | refine below_set ?_ GE275.out | refine below_set ?_ GE276.out) hb); clear BK275 BK276 HB; have BK275 := n0_; have BK276 := n1_; have HB := n2_; clear n0_ n1_ n2_; (try clear hb); (try clear hb2); (try clear hk); (try clear hi); have hcz17_0 : w16.cell? ⟨gb275, 0, none⟩ = some (.int .i64 a0_0) := (blk_cell BK275.out 0).trans rfl; have hcz17_1 : w16.cell? ⟨gb275, 1, none⟩ = some (.int .i64 a0_1) := (blk_cell BK275.out 1).trans rfl; have hcz17_2 : w16.cell? ⟨gb275, 2, none⟩ = some (.int .i64 a0_2) := (blk_cell BK275.out 2).trans rfl; have hcz17_3 : w16.cell? ⟨gb275, 3, none⟩ = some (.int .i64 a0_3) := (blk_cell BK275.out 3).trans rfl; have hfz17_0 := blk_frozen BK275.out 0; have hfz17_1 := blk_frozen BK275.out 1; have hfz17_2 := blk_frozen BK275.out 2; have hfz17_3 := blk_frozen BK275.out 3))
     go_meet
     case rel => exact ⟨_, (true), (by first | rfl | (simp; done) | (simp [*]; done)), H', ⟨by first | omega | exact Nat.le_refl _⟩, ⟨by refine bI ?_; exact BK275.out⟩, ⟨by refine bI ?_; exact BK276.out⟩, ⟨by repeat with_reducible first | exact HB.out | refine bC ?_ | refine below_set ?_ GE275.out | refine below_set ?_ GE276.out⟩⟩
    ·rw [if_neg c10] at H
     have c10b0 : (a0_0 == a0_2 && (a0_1 == a0_3)) = false := by simpa using c10
     (try (have c10b1 : decide (a0_0 = a0_2 && (a0_1 == a0_3)) = false := by simpa using c10)); (try (have c10b2 : (a0_0 == a0_2 && (a0_1 == a0_3)) = false := by simpa using c10)); (try (have c10b3 : ¬ (a0_0 = a0_2 && (a0_1 == a0_3)) := by simpa using c10)); clear c10; (first | rw [c10b0] | (simp only [i64_w, i32_w]; rw [c10b0]) | skip); have H' := Aside0.mk H; clear H; have hnb18 := NB275_276.out; have hnc18 := NB276_275.out; have hcz19_0 : w5.cell? ⟨gb275, 0, none⟩ = some (.int .i64 a0_0) := (blk_cell BK275.out 0).trans rfl; have hcz19_1 : w5.cell? ⟨gb275, 1, none⟩ = some (.int .i64 a0_1) := (blk_cell BK275.out 1).trans rfl; have hcz19_2 : w5.cell? ⟨gb275, 2, none⟩ = some (.int .i64 a0_2) := (blk_cell BK275.out 2).trans rfl; have hcz19_3 : w5.cell? ⟨gb275, 3, none⟩ = some (.int .i64 a0_3) := (blk_cell BK275.out 3).trans rfl; have hfz19_0 := blk_frozen BK275.out 0; have hfz19_1 := blk_frozen BK275.out 1; have hfz19_2 := blk_frozen BK275.out 2; have hfz19_3 := blk_frozen BK275.out 3; have hcz20_0 : w5.cell? ⟨gb276, 0, none⟩ = some (.int .i64 a1_0) := (blk_cell BK276.out 0).trans rfl; have hcz20_1 : w5.cell? ⟨gb276, 1, none⟩ = some (.int .i64 a1_1) := (blk_cell BK276.out 1).trans rfl; have hcz20_2 : w5.cell? ⟨gb276, 2, none⟩ = some (.int .i64 a1_2) := (blk_cell BK276.out 2).trans rfl; have hcz20_3 : w5.cell? ⟨gb276, 3, none⟩ = some (.int .i64 a1_3) := (blk_cell BK276.out 3).trans rfl; have hfz20_0 := blk_frozen BK276.out 0; have hfz20_1 := blk_frozen BK276.out 1; have hfz20_2 := blk_frozen BK276.out 2; have hfz20_3 := blk_frozen BK276.out 3
     go_wp2_with (first | ((with_reducible refine gate_callee (f := 54) rfl ?_); refine goesL_ (some 20) rfl rfl Try.func54 (by kernel_rfl) rfl #[.agg #[.int .i64 a0_0, .int .i64 a0_1], .agg #[.int .i64 a0_2, .int .i64 a0_3], .agg #[.int .i64 a1_0, .int .i64 a1_1]] rfl (by (try simp only [List.map_toArray, List.map_cons, List.map_nil]); first | done | rfl | (simp only [List.length_drop, List.length_take]; rfl)) ?_; (with_reducible refine (mapmakerref09_three.calls a0_0 a0_1 a0_2 a0_3 a1_0 a1_1 true _ A6.out).mono ?_); rintro e w21 ⟨rfl, hb⟩; refine ⟨_, rfl, ?_⟩; have n0_ := Aside0.mk (blk_below (bI BK275.out) hb); have n1_ := Aside0.mk (blk_below (bI BK276.out) hb); have n2_ := Aside0.mk (below_step (by repeat with_reducible first | exact HB.out | refine bC ?_ | apply pw_below_drewN | refine below_set ?_ GE275.out | refine below_set ?_ GE276.out) hb); clear BK275 BK276 HB; have BK275 := n0_; have BK276 := n1_; have HB := n2_; clear n0_ n1_ n2_; (try clear hb); (try clear hb2); (try clear hk); (try clear hi); have hcz22_0 : w21.cell? ⟨gb276, 0, none⟩ = some (.int .i64 a1_0) := (blk_cell BK276.out 0).trans rfl; have hcz22_1 : w21.cell? ⟨gb276, 1, none⟩ = some (.int .i64 a1_1) := (blk_cell BK276.out 1).trans rfl; have hcz22_2 : w21.cell? ⟨gb276, 2, none⟩ = some (.int .i64 a1_2) := (blk_cell BK276.out 2).trans rfl; have hcz22_3 : w21.cell? ⟨gb276, 3, none⟩ = some (.int .i64 a1_3) := (blk_cell BK276.out 3).trans rfl; have hfz22_0 := blk_frozen BK276.out 0; have hfz22_1 := blk_frozen BK276.out 1; have hfz22_2 := blk_frozen BK276.out 2; have hfz22_3 := blk_frozen BK276.out 3) | (go_at_call 41; (with_reducible refine (mapmakerref08_Valid.calls a1_2 a1_3 true _ A8.out).mono ?_); rintro e w23 ⟨rfl, hb⟩; have n0_ := Aside0.mk (blk_below (bI BK275.out) hb); have n1_ := Aside0.mk (blk_below (bI BK276.out) hb); have n2_ := Aside0.mk (below_step (by repeat with_reducible first | exact HB.out | refine bC ?_ | apply pw_below_drewN | refine below_set ?_ GE275.out | refine below_set ?_ GE276.out) hb); clear BK275 BK276 HB; have BK275 := n0_; have BK276 := n1_; have HB := n2_; clear n0_ n1_ n2_; (try clear hb); (try clear hb2); (try clear hk); (try clear hi); have hcz24_0 : w23.cell? ⟨gb275, 0, none⟩ = some (.int .i64 a0_0) := (blk_cell BK275.out 0).trans rfl; have hcz24_1 : w23.cell? ⟨gb275, 1, none⟩ = some (.int .i64 a0_1) := (blk_cell BK275.out 1).trans rfl; have hcz24_2 : w23.cell? ⟨gb275, 2, none⟩ = some (.int .i64 a0_2) := (blk_cell BK275.out 2).trans rfl; have hcz24_3 : w23.cell? ⟨gb275, 3, none⟩ = some (.int .i64 a0_3) := (blk_cell BK275.out 3).trans rfl; have hfz24_0 := blk_frozen BK275.out 0; have hfz24_1 := blk_frozen BK275.out 1; have hfz24_2 := blk_frozen BK275.out 2; have hfz24_3 := blk_frozen BK275.out 3; have hcz25_0 : w23.cell? ⟨gb276, 0, none⟩ = some (.int .i64 a1_0) := (blk_cell BK276.out 0).trans rfl; have hcz25_1 : w23.cell? ⟨gb276, 1, none⟩ = some (.int .i64 a1_1) := (blk_cell BK276.out 1).trans rfl; have hcz25_2 : w23.cell? ⟨gb276, 2, none⟩ = some (.int .i64 a1_2) := (blk_cell BK276.out 2).trans rfl; have hcz25_3 : w23.cell? ⟨gb276, 3, none⟩ = some (.int .i64 a1_3) := (blk_cell BK276.out 3).trans rfl; have hfz25_0 := blk_frozen BK276.out 0; have hfz25_1 := blk_frozen BK276.out 1; have hfz25_2 := blk_frozen BK276.out 2; have hfz25_3 := blk_frozen BK276.out 3))
     go_meet
     case rel => exact ⟨_, ((a1_0 == a1_2 && (a1_1 == a1_3))), (by first | rfl | (simp; done) | (simp [*]; done)), H', ⟨by first | omega | exact Nat.le_refl _⟩, ⟨by refine bI ?_; exact BK275.out⟩, ⟨by refine bI ?_; exact BK276.out⟩, ⟨by repeat with_reducible first | exact HB.out | refine bC ?_ | refine below_set ?_ GE275.out | refine below_set ?_ GE276.out⟩⟩
   ·replace c9 := Bool.eq_false_iff.mpr c9; subst c9; have H1 : (mapmakerref09_Relate.j0 k true a0_0 a0_1 a0_2 a0_3 a1_0 a1_1 a1_2 a1_3) = some r := by rw [if_neg (show ¬ (false = true) by decide)] at H; exact H
    clear H; have H := H1; clear H1; have H' := Aside0.mk H; clear H; have hnb26 := NB275_276.out; have hnc26 := NB276_275.out; have hcz27_0 : w5.cell? ⟨gb275, 0, none⟩ = some (.int .i64 a0_0) := (blk_cell BK275.out 0).trans rfl; have hcz27_1 : w5.cell? ⟨gb275, 1, none⟩ = some (.int .i64 a0_1) := (blk_cell BK275.out 1).trans rfl; have hcz27_2 : w5.cell? ⟨gb275, 2, none⟩ = some (.int .i64 a0_2) := (blk_cell BK275.out 2).trans rfl; have hcz27_3 : w5.cell? ⟨gb275, 3, none⟩ = some (.int .i64 a0_3) := (blk_cell BK275.out 3).trans rfl; have hfz27_0 := blk_frozen BK275.out 0; have hfz27_1 := blk_frozen BK275.out 1; have hfz27_2 := blk_frozen BK275.out 2; have hfz27_3 := blk_frozen BK275.out 3; have hcz28_0 : w5.cell? ⟨gb276, 0, none⟩ = some (.int .i64 a1_0) := (blk_cell BK276.out 0).trans rfl; have hcz28_1 : w5.cell? ⟨gb276, 1, none⟩ = some (.int .i64 a1_1) := (blk_cell BK276.out 1).trans rfl; have hcz28_2 : w5.cell? ⟨gb276, 2, none⟩ = some (.int .i64 a1_2) := (blk_cell BK276.out 2).trans rfl; have hcz28_3 : w5.cell? ⟨gb276, 3, none⟩ = some (.int .i64 a1_3) := (blk_cell BK276.out 3).trans rfl; have hfz28_0 := blk_frozen BK276.out 0; have hfz28_1 := blk_frozen BK276.out 1; have hfz28_2 := blk_frozen BK276.out 2; have hfz28_3 := blk_frozen BK276.out 3
    go_wp2_with (first | ((with_reducible refine gate_callee (f := 54) rfl ?_); refine goesL_ (some 20) rfl rfl Try.func54 (by kernel_rfl) rfl #[.agg #[.int .i64 a0_0, .int .i64 a0_1], .agg #[.int .i64 a0_2, .int .i64 a0_3], .agg #[.int .i64 a1_0, .int .i64 a1_1]] rfl (by (try simp only [List.map_toArray, List.map_cons, List.map_nil]); first | done | rfl | (simp only [List.length_drop, List.length_take]; rfl)) ?_; (with_reducible refine (mapmakerref09_three.calls a0_0 a0_1 a0_2 a0_3 a1_0 a1_1 true _ A6.out).mono ?_); rintro e w29 ⟨rfl, hb⟩; refine ⟨_, rfl, ?_⟩; have n0_ := Aside0.mk (blk_below (bI BK275.out) hb); have n1_ := Aside0.mk (blk_below (bI BK276.out) hb); have n2_ := Aside0.mk (below_step (by repeat with_reducible first | exact HB.out | refine bC ?_ | apply pw_below_drewN | refine below_set ?_ GE275.out | refine below_set ?_ GE276.out) hb); clear BK275 BK276 HB; have BK275 := n0_; have BK276 := n1_; have HB := n2_; clear n0_ n1_ n2_; (try clear hb); (try clear hb2); (try clear hk); (try clear hi); have hcz30_0 : w29.cell? ⟨gb276, 0, none⟩ = some (.int .i64 a1_0) := (blk_cell BK276.out 0).trans rfl; have hcz30_1 : w29.cell? ⟨gb276, 1, none⟩ = some (.int .i64 a1_1) := (blk_cell BK276.out 1).trans rfl; have hcz30_2 : w29.cell? ⟨gb276, 2, none⟩ = some (.int .i64 a1_2) := (blk_cell BK276.out 2).trans rfl; have hcz30_3 : w29.cell? ⟨gb276, 3, none⟩ = some (.int .i64 a1_3) := (blk_cell BK276.out 3).trans rfl; have hfz30_0 := blk_frozen BK276.out 0; have hfz30_1 := blk_frozen BK276.out 1; have hfz30_2 := blk_frozen BK276.out 2; have hfz30_3 := blk_frozen BK276.out 3) | (go_at_call 41; (with_reducible refine (mapmakerref08_Valid.calls a1_2 a1_3 false _ A8.out).mono ?_); rintro e w31 ⟨rfl, hb⟩; have n0_ := Aside0.mk (blk_below (bI BK275.out) hb); have n1_ := Aside0.mk (blk_below (bI BK276.out) hb); have n2_ := Aside0.mk (below_step (by repeat with_reducible first | exact HB.out | refine bC ?_ | apply pw_below_drewN | refine below_set ?_ GE275.out | refine below_set ?_ GE276.out) hb); clear BK275 BK276 HB; have BK275 := n0_; have BK276 := n1_; have HB := n2_; clear n0_ n1_ n2_; (try clear hb); (try clear hb2); (try clear hk); (try clear hi)))
    go_meet
    case rel => exact ⟨_, (true), (by first | rfl | (simp; done) | (simp [*]; done)), H', ⟨by first | omega | exact Nat.le_refl _⟩, ⟨by refine bI ?_; exact BK275.out⟩, ⟨by refine bI ?_; exact BK276.out⟩, ⟨by repeat with_reducible first | exact HB.out | refine bC ?_ | refine below_set ?_ GE275.out | refine below_set ?_ GE276.out⟩⟩
  ·replace c7 := Bool.eq_false_iff.mpr c7; subst c7; have H1 : (mapmakerref09_Relate.j0 k true a0_0 a0_1 a0_2 a0_3 a1_0 a1_1 a1_2 a1_3) = some r := by rw [if_neg (show ¬ (false = true) by decide)] at H; exact H
   clear H; have H := H1; clear H1; have H' := Aside0.mk H; clear H; have hnb32 := NB275_276.out; have hnc32 := NB276_275.out; have hcz33_0 : w5.cell? ⟨gb275, 0, none⟩ = some (.int .i64 a0_0) := (blk_cell BK275.out 0).trans rfl; have hcz33_1 : w5.cell? ⟨gb275, 1, none⟩ = some (.int .i64 a0_1) := (blk_cell BK275.out 1).trans rfl; have hcz33_2 : w5.cell? ⟨gb275, 2, none⟩ = some (.int .i64 a0_2) := (blk_cell BK275.out 2).trans rfl; have hcz33_3 : w5.cell? ⟨gb275, 3, none⟩ = some (.int .i64 a0_3) := (blk_cell BK275.out 3).trans rfl; have hfz33_0 := blk_frozen BK275.out 0; have hfz33_1 := blk_frozen BK275.out 1; have hfz33_2 := blk_frozen BK275.out 2; have hfz33_3 := blk_frozen BK275.out 3; have hcz34_0 : w5.cell? ⟨gb276, 0, none⟩ = some (.int .i64 a1_0) := (blk_cell BK276.out 0).trans rfl; have hcz34_1 : w5.cell? ⟨gb276, 1, none⟩ = some (.int .i64 a1_1) := (blk_cell BK276.out 1).trans rfl; have hcz34_2 : w5.cell? ⟨gb276, 2, none⟩ = some (.int .i64 a1_2) := (blk_cell BK276.out 2).trans rfl; have hcz34_3 : w5.cell? ⟨gb276, 3, none⟩ = some (.int .i64 a1_3) := (blk_cell BK276.out 3).trans rfl; have hfz34_0 := blk_frozen BK276.out 0; have hfz34_1 := blk_frozen BK276.out 1; have hfz34_2 := blk_frozen BK276.out 2; have hfz34_3 := blk_frozen BK276.out 3
   go_wp2_with (first | ((with_reducible refine gate_callee (f := 54) rfl ?_); refine goesL_ (some 20) rfl rfl Try.func54 (by kernel_rfl) rfl #[.agg #[.int .i64 a0_0, .int .i64 a0_1], .agg #[.int .i64 a0_2, .int .i64 a0_3], .agg #[.int .i64 a1_0, .int .i64 a1_1]] rfl (by (try simp only [List.map_toArray, List.map_cons, List.map_nil]); first | done | rfl | (simp only [List.length_drop, List.length_take]; rfl)) ?_; (with_reducible refine (mapmakerref09_three.calls a0_0 a0_1 a0_2 a0_3 a1_0 a1_1 false _ A6.out).mono ?_); rintro e w35 ⟨rfl, hb⟩; refine ⟨_, rfl, ?_⟩; have n0_ := Aside0.mk (blk_below (bI BK275.out) hb); have n1_ := Aside0.mk (blk_below (bI BK276.out) hb); have n2_ := Aside0.mk (below_step (by repeat with_reducible first | exact HB.out | refine bC ?_ | apply pw_below_drewN | refine below_set ?_ GE275.out | refine below_set ?_ GE276.out) hb); clear BK275 BK276 HB; have BK275 := n0_; have BK276 := n1_; have HB := n2_; clear n0_ n1_ n2_; (try clear hb); (try clear hb2); (try clear hk); (try clear hi)))
   go_meet
   case rel => exact ⟨_, (true), (by first | rfl | (simp; done) | (simp [*]; done)), H', ⟨by first | omega | exact Nat.le_refl _⟩, ⟨by refine bI ?_; exact BK275.out⟩, ⟨by refine bI ?_; exact BK276.out⟩, ⟨by repeat with_reducible first | exact HB.out | refine bC ?_ | refine below_set ?_ GE275.out | refine below_set ?_ GE276.out⟩⟩
 case rest =>
  clear HC3
  try clear c1
  try clear c2
  try clear p2
  try clear c3
  try clear c5
  try clear c7
  try clear c9
  try clear c10
  try clear c10b0
  try clear c10b1
  try clear c10b2
  try clear c11
  try clear c18
  try clear c26
  try clear c32
  try clear c33
  try clear hcz12_0
  try clear hcz12_1
  try clear hcz12_2
  try clear hcz12_3
  try clear hcz13_0
  try clear hcz13_1
  try clear hcz13_2
  try clear hcz13_3
  try clear hcz15_0
  try clear hcz15_1
  try clear hcz15_2
  try clear hcz15_3
  try clear hcz17_0
  try clear hcz17_1
  try clear hcz17_2
  try clear hcz17_3
  try clear hcz19_0
  try clear hcz19_1
  try clear hcz19_2
  try clear hcz19_3
  try clear hcz20_0
  try clear hcz20_1
  try clear hcz20_2
  try clear hcz20_3
  try clear hcz22_0
  try clear hcz22_1
  try clear hcz22_2
  try clear hcz22_3
  try clear hcz24_0
  try clear hcz24_1
  try clear hcz24_2
  try clear hcz24_3
  try clear hcz25_0
  try clear hcz25_1
  try clear hcz25_2
  try clear hcz25_3
  try clear hcz27_0
  try clear hcz27_1
  try clear hcz27_2
  try clear hcz27_3
  try clear hcz28_0
  try clear hcz28_1
  try clear hcz28_2
  try clear hcz28_3
  try clear hcz30_0
  try clear hcz30_1
  try clear hcz30_2
  try clear hcz30_3
  try clear hcz33_0
  try clear hcz33_1
  try clear hcz33_2
  try clear hcz33_3
  try clear hcz34_0
  try clear hcz34_1
  try clear hcz34_2
  try clear hcz34_3
  try clear hfz12_0
  try clear hfz12_1
  try clear hfz12_2
  try clear hfz12_3
  try clear hfz13_0
  try clear hfz13_1
  try clear hfz13_2
  try clear hfz13_3
  try clear hfz15_0
  try clear hfz15_1
  try clear hfz15_2
  try clear hfz15_3
  try clear hfz17_0
  try clear hfz17_1
  try clear hfz17_2
  try clear hfz17_3
  try clear hfz19_0
  try clear hfz19_1
  try clear hfz19_2
  try clear hfz19_3
  try clear hfz20_0
  try clear hfz20_1
  try clear hfz20_2
  try clear hfz20_3
  try clear hfz22_0
  try clear hfz22_1
  try clear hfz22_2
  try clear hfz22_3
  try clear hfz24_0
  try clear hfz24_1
  try clear hfz24_2
  try clear hfz24_3
  try clear hfz25_0
  try clear hfz25_1
  try clear hfz25_2
  try clear hfz25_3
  try clear hfz27_0
  try clear hfz27_1
  try clear hfz27_2
  try clear hfz27_3
  try clear hfz28_0
  try clear hfz28_1
  try clear hfz28_2
  try clear hfz28_3
  try clear hfz30_0
  try clear hfz30_1
  try clear hfz30_2
  try clear hfz30_3
  try clear hfz33_0
  try clear hfz33_1
  try clear hfz33_2
  try clear hfz33_3
  try clear hfz34_0
  try clear hfz34_1
  try clear hfz34_2
  try clear hfz34_3
  obtain ⟨kq, x41_2, rfl, HA, HJ2, BK275, BK276, HB⟩ := hcut
  cases kq with
  | zero => exact absurd HA.out (by simp [mapmakerref09_Relate.j0])
  | succ kj2 =>
   have H := HA.out; clear HA; simp only [mapmakerref09_Relate.j0] at H
   by_cases c36 : x41_2 = true
   ·subst c36; have H1 : (some 0) = some r := by rw [if_pos rfl] at H; exact H
    clear H; have H := H1; clear H1; obtain rfl := Option.some.inj H
    go_wp2
    go_ret
    exact ⟨by first | rfl | (simp [errW_none, errW_some] <;> rfl) | (simp [*, errW_none, errW_some] <;> rfl), by repeat with_reducible first | exact HB.out | refine bC ?_ | refine below_set ?_ GE275.out | refine below_set ?_ GE276.out⟩
   ·replace c36 := Bool.eq_false_iff.mpr c36; subst c36; have H1 : ((mapmakerref09_Turn.f a0_0 a0_1 a0_2 a0_3 a1_0 a1_1).bind fun t279 => ((mapmakerref09_sign.f t279).bind fun t280 => ((mapmakerref09_Turn.f a0_0 a0_1 a0_2 a0_3 a1_2 a1_3).bind fun t281 => ((mapmakerref09_sign.f t281).bind fun t282 => ((mapmakerref09_Turn.f a1_0 a1_1 a1_2 a1_3 a0_0 a0_1).bind fun t283 => ((mapmakerref09_sign.f t283).bind fun t284 => ((mapmakerref09_Turn.f a1_0 a1_1 a1_2 a1_3 a0_2 a0_3).bind fun t285 => ((mapmakerref09_sign.f t285).bind fun t286 => (if (wrap64 (t280 * t282)) < 0 then (mapmakerref09_Relate.j1 kj2 (decide ((wrap64 (t284 * t286)) < 0)) a0_0 a0_1 a0_2 a0_3 a1_0 a1_1 a1_2 a1_3) else (mapmakerref09_Relate.j1 kj2 false a0_0 a0_1 a0_2 a0_3 a1_0 a1_1 a1_2 a1_3)))))))))) = some r := by rw [if_neg (show ¬ (false = true) by decide)] at H; exact H
    clear H; have H := H1; clear H1; replace H := Option.bind_eq_some_iff.mp H; obtain ⟨t279, A370, H⟩ := H; replace H : ((mapmakerref09_sign.f t279).bind fun t280 => ((mapmakerref09_Turn.f a0_0 a0_1 a0_2 a0_3 a1_2 a1_3).bind fun t281 => ((mapmakerref09_sign.f t281).bind fun t282 => ((mapmakerref09_Turn.f a1_0 a1_1 a1_2 a1_3 a0_0 a0_1).bind fun t283 => ((mapmakerref09_sign.f t283).bind fun t284 => ((mapmakerref09_Turn.f a1_0 a1_1 a1_2 a1_3 a0_2 a0_3).bind fun t285 => ((mapmakerref09_sign.f t285).bind fun t286 => (if (wrap64 (t280 * t282)) < 0 then (mapmakerref09_Relate.j1 kj2 (decide ((wrap64 (t284 * t286)) < 0)) a0_0 a0_1 a0_2 a0_3 a1_0 a1_1 a1_2 a1_3) else (mapmakerref09_Relate.j1 kj2 false a0_0 a0_1 a0_2 a0_3 a1_0 a1_1 a1_2 a1_3))))))))) = some r := H; have A37 := Aside0.mk A370; clear A370; replace H := Option.bind_eq_some_iff.mp H; obtain ⟨t280, A380, H⟩ := H; replace H : ((mapmakerref09_Turn.f a0_0 a0_1 a0_2 a0_3 a1_2 a1_3).bind fun t281 => ((mapmakerref09_sign.f t281).bind fun t282 => ((mapmakerref09_Turn.f a1_0 a1_1 a1_2 a1_3 a0_0 a0_1).bind fun t283 => ((mapmakerref09_sign.f t283).bind fun t284 => ((mapmakerref09_Turn.f a1_0 a1_1 a1_2 a1_3 a0_2 a0_3).bind fun t285 => ((mapmakerref09_sign.f t285).bind fun t286 => (if (wrap64 (t280 * t282)) < 0 then (mapmakerref09_Relate.j1 kj2 (decide ((wrap64 (t284 * t286)) < 0)) a0_0 a0_1 a0_2 a0_3 a1_0 a1_1 a1_2 a1_3) else (mapmakerref09_Relate.j1 kj2 false a0_0 a0_1 a0_2 a0_3 a1_0 a1_1 a1_2 a1_3)))))))) = some r := H; have A38 := Aside0.mk A380; clear A380; replace H := Option.bind_eq_some_iff.mp H; obtain ⟨t281, A390, H⟩ := H; replace H : ((mapmakerref09_sign.f t281).bind fun t282 => ((mapmakerref09_Turn.f a1_0 a1_1 a1_2 a1_3 a0_0 a0_1).bind fun t283 => ((mapmakerref09_sign.f t283).bind fun t284 => ((mapmakerref09_Turn.f a1_0 a1_1 a1_2 a1_3 a0_2 a0_3).bind fun t285 => ((mapmakerref09_sign.f t285).bind fun t286 => (if (wrap64 (t280 * t282)) < 0 then (mapmakerref09_Relate.j1 kj2 (decide ((wrap64 (t284 * t286)) < 0)) a0_0 a0_1 a0_2 a0_3 a1_0 a1_1 a1_2 a1_3) else (mapmakerref09_Relate.j1 kj2 false a0_0 a0_1 a0_2 a0_3 a1_0 a1_1 a1_2 a1_3))))))) = some r := H; have A39 := Aside0.mk A390; clear A390; replace H := Option.bind_eq_some_iff.mp H; obtain ⟨t282, A400, H⟩ := H; replace H : ((mapmakerref09_Turn.f a1_0 a1_1 a1_2 a1_3 a0_0 a0_1).bind fun t283 => ((mapmakerref09_sign.f t283).bind fun t284 => ((mapmakerref09_Turn.f a1_0 a1_1 a1_2 a1_3 a0_2 a0_3).bind fun t285 => ((mapmakerref09_sign.f t285).bind fun t286 => (if (wrap64 (t280 * t282)) < 0 then (mapmakerref09_Relate.j1 kj2 (decide ((wrap64 (t284 * t286)) < 0)) a0_0 a0_1 a0_2 a0_3 a1_0 a1_1 a1_2 a1_3) else (mapmakerref09_Relate.j1 kj2 false a0_0 a0_1 a0_2 a0_3 a1_0 a1_1 a1_2 a1_3)))))) = some r := H; have A40 := Aside0.mk A400; clear A400; replace H := Option.bind_eq_some_iff.mp H; obtain ⟨t283, A410, H⟩ := H; replace H : ((mapmakerref09_sign.f t283).bind fun t284 => ((mapmakerref09_Turn.f a1_0 a1_1 a1_2 a1_3 a0_2 a0_3).bind fun t285 => ((mapmakerref09_sign.f t285).bind fun t286 => (if (wrap64 (t280 * t282)) < 0 then (mapmakerref09_Relate.j1 kj2 (decide ((wrap64 (t284 * t286)) < 0)) a0_0 a0_1 a0_2 a0_3 a1_0 a1_1 a1_2 a1_3) else (mapmakerref09_Relate.j1 kj2 false a0_0 a0_1 a0_2 a0_3 a1_0 a1_1 a1_2 a1_3))))) = some r := H; have A41 := Aside0.mk A410; clear A410; replace H := Option.bind_eq_some_iff.mp H; obtain ⟨t284, A420, H⟩ := H; replace H : ((mapmakerref09_Turn.f a1_0 a1_1 a1_2 a1_3 a0_2 a0_3).bind fun t285 => ((mapmakerref09_sign.f t285).bind fun t286 => (if (wrap64 (t280 * t282)) < 0 then (mapmakerref09_Relate.j1 kj2 (decide ((wrap64 (t284 * t286)) < 0)) a0_0 a0_1 a0_2 a0_3 a1_0 a1_1 a1_2 a1_3) else (mapmakerref09_Relate.j1 kj2 false a0_0 a0_1 a0_2 a0_3 a1_0 a1_1 a1_2 a1_3)))) = some r := H; have A42 := Aside0.mk A420; clear A420; replace H := Option.bind_eq_some_iff.mp H; obtain ⟨t285, A430, H⟩ := H; replace H : ((mapmakerref09_sign.f t285).bind fun t286 => (if (wrap64 (t280 * t282)) < 0 then (mapmakerref09_Relate.j1 kj2 (decide ((wrap64 (t284 * t286)) < 0)) a0_0 a0_1 a0_2 a0_3 a1_0 a1_1 a1_2 a1_3) else (mapmakerref09_Relate.j1 kj2 false a0_0 a0_1 a0_2 a0_3 a1_0 a1_1 a1_2 a1_3))) = some r := H; have A43 := Aside0.mk A430; clear A430; replace H := Option.bind_eq_some_iff.mp H; obtain ⟨t286, A440, H⟩ := H; replace H : (if (wrap64 (t280 * t282)) < 0 then (mapmakerref09_Relate.j1 kj2 (decide ((wrap64 (t284 * t286)) < 0)) a0_0 a0_1 a0_2 a0_3 a1_0 a1_1 a1_2 a1_3) else (mapmakerref09_Relate.j1 kj2 false a0_0 a0_1 a0_2 a0_3 a1_0 a1_1 a1_2 a1_3)) = some r := H; have A44 := Aside0.mk A440; clear A440; have HC45 := Aside0.mk H; clear H
    try go_wp2
    have n0_ := Aside0.mk (blk_drew BK275.out); have n1_ := Aside0.mk (blk_drew BK276.out); have n2_ := Aside0.mk (below_drew1 HB.out); clear BK275 BK276 HB; have BK275 := n0_; have BK276 := n1_; have HB := n2_; clear n0_ n1_ n2_; refine start_ (n := 18) (S := fun w' => w'.cell? ⟨gb275, 0, none⟩ = some (.int .i64 a0_0) ∧ w'.cell? ⟨gb275, 1, none⟩ = some (.int .i64 a0_1) ∧ w'.cell? ⟨gb275, 2, none⟩ = some (.int .i64 a0_2) ∧ w'.cell? ⟨gb275, 3, none⟩ = some (.int .i64 a0_3) ∧ w'.cell? ⟨gb276, 0, none⟩ = some (.int .i64 a1_0) ∧ w'.cell? ⟨gb276, 1, none⟩ = some (.int .i64 a1_1) ∧ w'.cell? ⟨gb276, 2, none⟩ = some (.int .i64 a1_2) ∧ w'.cell? ⟨gb276, 3, none⟩ = some (.int .i64 a1_3)) (ds := []) #[F, F, F, F, F, F, F, F, F, F, F, F, F, F, F, F, F, F] (by kernel_rfl) rfl rfl ⟨(blk_cell BK275.out 0).trans rfl, (blk_cell BK275.out 1).trans rfl, (blk_cell BK275.out 2).trans rfl, (blk_cell BK275.out 3).trans rfl, (blk_cell BK276.out 0).trans rfl, (blk_cell BK276.out 1).trans rfl, (blk_cell BK276.out 2).trans rfl, (blk_cell BK276.out 3).trans rfl⟩ (fun hHeld => ?_); refine with_tabW mapmakerref09_Relate.tab3 mapmakerref09_Relate.bits3 (fun HT_ HW_ => ?_); generalize wc.drew = w46 at BK275 BK276 HB hHeld ⊢
    refine pure_ (i := 0) (N := some 42) (v := ?_) (a' := ?_) #[T, F, F, F, F, F, F, F, F, F, F, F, F, F, F, F, F, F] rfl rfl (any_of HT_.out (by kernel_rfl)) (fun _ _ _ h => h) (Or.inl ⟨by rfl, ?_⟩) ?_ ?_; rotate_left
    ·intro w'; go_simp; with_reducible rfl
    rotate_left
    ·go_simp
     rfl
    refine pure_ (i := 2) (N := some 44) (v := ?_) (a' := ?_) #[T, F, T, F, F, F, F, F, F, F, F, F, F, F, F, F, F, F] rfl rfl (any_of HT_.out (by kernel_rfl)) (fun _ _ _ h => h) (Or.inl ⟨by rfl, ?_⟩) ?_ ?_; rotate_left
    ·intro w'; go_simp; with_reducible rfl
    rotate_left
    ·go_simp
     rfl
    refine pure_ (i := 4) (N := some 46) (v := ?_) (a' := ?_) #[T, F, T, F, T, F, F, F, F, F, F, F, F, F, F, F, F, F] rfl rfl (any_of HT_.out (by kernel_rfl)) (fun _ _ _ h => h) (Or.inl ⟨by rfl, ?_⟩) ?_ ?_; rotate_left
    ·intro w'; go_simp; with_reducible rfl
    rotate_left
    ·go_simp
     rfl
    refine pure_ (i := 8) (N := some 50) (v := ?_) (a' := ?_) #[T, F, T, F, T, F, F, F, T, F, F, F, F, F, F, F, F, F] rfl rfl (any_of HT_.out (by kernel_rfl)) (fun _ _ _ h => h) (Or.inl ⟨by rfl, ?_⟩) ?_ ?_; rotate_left
    ·intro w'; go_simp; with_reducible rfl
    rotate_left
    ·go_simp
     rfl
    refine pure_ (i := 10) (N := some 52) (v := ?_) (a' := ?_) #[T, F, T, F, T, F, F, F, T, F, T, F, F, F, F, F, F, F] rfl rfl (any_of HT_.out (by kernel_rfl)) (fun _ _ _ h => h) (Or.inl ⟨by rfl, ?_⟩) ?_ ?_; rotate_left
    ·intro w'; go_simp; with_reducible rfl
    rotate_left
    ·go_simp
     rfl
    refine pure_ (i := 12) (N := some 54) (v := ?_) (a' := ?_) #[T, F, T, F, T, F, F, F, T, F, T, F, T, F, F, F, F, F] rfl rfl (any_of HT_.out (by kernel_rfl)) (fun _ _ _ h => h) (Or.inl ⟨by rfl, ?_⟩) ?_ ?_; rotate_left
    ·intro w'; go_simp; with_reducible rfl
    rotate_left
    ·go_simp
     rfl
    refine take_ (i := 1) (N := some 43) (v := ?_) (a' := ?_) #[T, T, T, F, T, F, F, F, T, F, T, F, T, F, F, F, F, F] rfl rfl (take_ofW HT_.out HW_.out (by kernel_rfl)) (fun _ _ _ h => h) (Or.inl ⟨by rfl, ?_⟩) hHeld ?_ ?_; rotate_left
    ·rintro w' ⟨s0, s1, s2, s3, s4, s5, s6, s7⟩; go_simp; with_reducible rfl
    rotate_left
    ·go_simp
     rfl
    refine take_ (i := 3) (N := some 45) (v := ?_) (a' := ?_) #[T, T, T, T, T, F, F, F, T, F, T, F, T, F, F, F, F, F] rfl rfl (take_ofW HT_.out HW_.out (by kernel_rfl)) (fun _ _ _ h => h) (Or.inl ⟨by rfl, ?_⟩) hHeld ?_ ?_; rotate_left
    ·rintro w' ⟨s0, s1, s2, s3, s4, s5, s6, s7⟩; go_simp; with_reducible rfl
    rotate_left
    ·go_simp
     rfl
    refine take_ (i := 5) (N := some 47) (v := ?_) (a' := ?_) #[T, T, T, T, T, T, F, F, T, F, T, F, T, F, F, F, F, F] rfl rfl (take_ofW HT_.out HW_.out (by kernel_rfl)) (fun _ _ _ h => h) (Or.inl ⟨by rfl, ?_⟩) hHeld ?_ ?_; rotate_left
    ·rintro w' ⟨s0, s1, s2, s3, s4, s5, s6, s7⟩; go_simp; with_reducible rfl
    rotate_left
    ·go_simp
     rfl
    refine take_ (i := 9) (N := some 51) (v := ?_) (a' := ?_) #[T, T, T, T, T, T, F, F, T, T, T, F, T, F, F, F, F, F] rfl rfl (take_ofW HT_.out HW_.out (by kernel_rfl)) (fun _ _ _ h => h) (Or.inl ⟨by rfl, ?_⟩) hHeld ?_ ?_; rotate_left
    ·rintro w' ⟨s0, s1, s2, s3, s4, s5, s6, s7⟩; go_simp; with_reducible rfl
    rotate_left
    ·go_simp
     rfl
    refine take_ (i := 11) (N := some 53) (v := ?_) (a' := ?_) #[T, T, T, T, T, T, F, F, T, T, T, T, T, F, F, F, F, F] rfl rfl (take_ofW HT_.out HW_.out (by kernel_rfl)) (fun _ _ _ h => h) (Or.inl ⟨by rfl, ?_⟩) hHeld ?_ ?_; rotate_left
    ·rintro w' ⟨s0, s1, s2, s3, s4, s5, s6, s7⟩; go_simp; with_reducible rfl
    rotate_left
    ·go_simp
     rfl
    refine take_ (i := 13) (N := some 55) (v := ?_) (a' := ?_) #[T, T, T, T, T, T, F, F, T, T, T, T, T, T, F, F, F, F] rfl rfl (take_ofW HT_.out HW_.out (by kernel_rfl)) (fun _ _ _ h => h) (Or.inl ⟨by rfl, ?_⟩) hHeld ?_ ?_; rotate_left
    ·rintro w' ⟨s0, s1, s2, s3, s4, s5, s6, s7⟩; go_simp; with_reducible rfl
    rotate_left
    ·go_simp
     rfl
    refine one_ (i := 6) (N := some 48) #[T, T, T, T, T, T, T, F, T, T, T, T, T, T, F, F, F, F] rfl rfl (one_of HT_.out (by kernel_rfl)) (by decide) (fun K hK => ?_); refine goes_ Try.func56 (by kernel_rfl) rfl #[.agg #[.int .i64 a0_0, .int .i64 a0_1], .agg #[.int .i64 a0_2, .int .i64 a0_3], .agg #[.int .i64 a1_0, .int .i64 a1_1]] (by rfl) rfl rfl (by (try simp only [List.map_toArray, List.map_cons, List.map_nil]); first | done | rfl | (simp only [List.length_drop, List.length_take]; rfl)) ?_; with_reducible refine (mapmakerref09_Turn.calls a0_0 a0_1 a0_2 a0_3 a1_0 a1_1 t279 _ A37.out).mono ?_
    rintro e w47 ⟨rfl, hb⟩; refine ⟨_, rfl, ?_⟩; have n0_ := Aside0.mk (blk_below (bI BK275.out) hb); have n1_ := Aside0.mk (blk_below (bI BK276.out) hb); have n2_ := Aside0.mk (below_step (by repeat with_reducible first | exact HB.out | refine bC ?_ | apply pw_below_drewN | refine below_set ?_ GE275.out | refine below_set ?_ GE276.out) hb); clear BK275 BK276 HB; have BK275 := n0_; have BK276 := n1_; have HB := n2_; clear n0_ n1_ n2_; (try clear hb); (try clear hb2); (try clear hk); (try clear hi); refine hK.out _ _ ⟨(blk_cell BK275.out 0).trans rfl, (blk_cell BK275.out 1).trans rfl, (blk_cell BK275.out 2).trans rfl, (blk_cell BK275.out 3).trans rfl, (blk_cell BK276.out 0).trans rfl, (blk_cell BK276.out 1).trans rfl, (blk_cell BK276.out 2).trans rfl, (blk_cell BK276.out 3).trans rfl⟩ (fun hHeld => ?_); clear hK K; refine norm_ (a' := ?_) ?_ ?_; rotate_left
    ·show Act.put _ (some 48) _ = _; go_simp; rfl
    refine one_ (i := 7) (N := some 49) #[T, T, T, T, T, T, T, T, T, T, T, T, T, T, F, F, F, F] rfl rfl (one_of HT_.out (by kernel_rfl)) (by decide) (fun K hK => ?_); refine goes_ Try.func55 (by kernel_rfl) rfl #[.int .i64 t279] (by rfl) rfl rfl (by (try simp only [List.map_toArray, List.map_cons, List.map_nil]); first | done | rfl | (simp only [List.length_drop, List.length_take]; rfl)) ?_; with_reducible refine (mapmakerref09_sign.calls t279 t280 _ A38.out).mono ?_
    rintro e w' ⟨rfl, ⟨nd, rfl⟩⟩; refine ⟨_, rfl, ?_⟩; refine hK.out _ _ ⟨(blk_cell BK275.out 0).trans rfl, (blk_cell BK275.out 1).trans rfl, (blk_cell BK275.out 2).trans rfl, (blk_cell BK275.out 3).trans rfl, (blk_cell BK276.out 0).trans rfl, (blk_cell BK276.out 1).trans rfl, (blk_cell BK276.out 2).trans rfl, (blk_cell BK276.out 3).trans rfl⟩ (fun hHeld => ?_); clear hK K; refine norm_ (a' := ?_) ?_ ?_; rotate_left
    ·show Act.put _ (some 49) _ = _; go_simp; rfl
    refine one_ (i := 14) (N := some 56) #[T, T, T, T, T, T, T, T, T, T, T, T, T, T, T, F, F, F] rfl rfl (one_of HT_.out (by kernel_rfl)) (by decide) (fun K hK => ?_); refine goes_ Try.func56 (by kernel_rfl) rfl #[.agg #[.int .i64 a0_0, .int .i64 a0_1], .agg #[.int .i64 a0_2, .int .i64 a0_3], .agg #[.int .i64 a1_2, .int .i64 a1_3]] (by rfl) rfl rfl (by (try simp only [List.map_toArray, List.map_cons, List.map_nil]); first | done | rfl | (simp only [List.length_drop, List.length_take]; rfl)) ?_; with_reducible refine (mapmakerref09_Turn.calls a0_0 a0_1 a0_2 a0_3 a1_2 a1_3 t281 _ A39.out).mono ?_
    rintro e w48 ⟨rfl, hb⟩; refine ⟨_, rfl, ?_⟩; have n0_ := Aside0.mk (blk_below (bI BK275.out) hb); have n1_ := Aside0.mk (blk_below (bI BK276.out) hb); have n2_ := Aside0.mk (below_step (by repeat with_reducible first | exact HB.out | refine bC ?_ | apply pw_below_drewN | refine below_set ?_ GE275.out | refine below_set ?_ GE276.out) hb); clear BK275 BK276 HB; have BK275 := n0_; have BK276 := n1_; have HB := n2_; clear n0_ n1_ n2_; (try clear hb); (try clear hb2); (try clear hk); (try clear hi); refine hK.out _ _ ⟨(blk_cell BK275.out 0).trans rfl, (blk_cell BK275.out 1).trans rfl, (blk_cell BK275.out 2).trans rfl, (blk_cell BK275.out 3).trans rfl, (blk_cell BK276.out 0).trans rfl, (blk_cell BK276.out 1).trans rfl, (blk_cell BK276.out 2).trans rfl, (blk_cell BK276.out 3).trans rfl⟩ (fun hHeld => ?_); clear hK K; refine norm_ (a' := ?_) ?_ ?_; rotate_left
    ·show Act.put _ (some 56) _ = _; go_simp; rfl
    refine one_ (i := 15) (N := some 57) #[T, T, T, T, T, T, T, T, T, T, T, T, T, T, T, T, F, F] rfl rfl (one_of HT_.out (by kernel_rfl)) (by decide) (fun K hK => ?_); refine goes_ Try.func55 (by kernel_rfl) rfl #[.int .i64 t281] (by rfl) rfl rfl (by (try simp only [List.map_toArray, List.map_cons, List.map_nil]); first | done | rfl | (simp only [List.length_drop, List.length_take]; rfl)) ?_; with_reducible refine (mapmakerref09_sign.calls t281 t282 _ A40.out).mono ?_
    rintro e w' ⟨rfl, ⟨nd, rfl⟩⟩; refine ⟨_, rfl, ?_⟩; refine hK.out _ _ ⟨(blk_cell BK275.out 0).trans rfl, (blk_cell BK275.out 1).trans rfl, (blk_cell BK275.out 2).trans rfl, (blk_cell BK275.out 3).trans rfl, (blk_cell BK276.out 0).trans rfl, (blk_cell BK276.out 1).trans rfl, (blk_cell BK276.out 2).trans rfl, (blk_cell BK276.out 3).trans rfl⟩ (fun hHeld => ?_); clear hK K; refine norm_ (a' := ?_) ?_ ?_; rotate_left
    ·show Act.put _ (some 57) _ = _; go_simp; rfl
    refine pure_ (i := 16) (N := some 5) (v := ?_) (a' := ?_) #[T, T, T, T, T, T, T, T, T, T, T, T, T, T, T, T, T, F] rfl rfl (any_of HT_.out (by kernel_rfl)) (fun _ _ _ h => h) (Or.inl ⟨by rfl, ?_⟩) ?_ ?_; rotate_left
    ·intro w'; go_simp; with_reducible rfl
    rotate_left
    ·go_simp
     rfl
    refine pure_ (i := 17) (N := some 6) (v := ?_) (a' := ?_) #[T, T, T, T, T, T, T, T, T, T, T, T, T, T, T, T, T, T] rfl rfl (any_of HT_.out (by kernel_rfl)) (fun _ _ _ h => h) (Or.inl ⟨by rfl, ?_⟩) ?_ ?_; rotate_left
    ·intro w'; go_simp; with_reducible rfl
    rotate_left
    ·go_simp
     rfl
    refine done_ (done_of HT_.out (by kernel_rfl)) ?_
    try go_wp2
    (try (rw [drewN_self w48]; generalize hq_ : World.drewN w48 _ = w48; have n0_ : Aside0 (w48.heap[gb275]? = some (.cells #[.int .i64 a0_0, .int .i64 a0_1, .int .i64 a0_2, .int .i64 a0_3] 45 (0, 0))) := ⟨by rw [← hq_]; exact (bI BK275.out)⟩; have n1_ : Aside0 (w48.heap[gb276]? = some (.cells #[.int .i64 a1_0, .int .i64 a1_1, .int .i64 a1_2, .int .i64 a1_3] 45 (0, 0))) := ⟨by rw [← hq_]; exact (bI BK276.out)⟩; have n2_ : Aside0 (Below w.heap.size w w48) := ⟨by rw [← hq_]; exact (by repeat with_reducible first | exact HB.out | refine bC ?_ | refine below_set ?_ GE275.out | refine below_set ?_ GE276.out)⟩; clear BK275 BK276 HB hq_; have BK275 := n0_; have BK276 := n1_; have HB := n2_; clear n0_ n1_ n2_)); have n0_ := Aside0.mk (blk_drew BK275.out); have n1_ := Aside0.mk (blk_drew BK276.out); have n2_ := Aside0.mk (below_drew1 HB.out); clear BK275 BK276 HB; have BK275 := n0_; have BK276 := n1_; have HB := n2_; clear n0_ n1_ n2_; refine start_ (n := 18) (S := fun w' => w'.cell? ⟨gb276, 0, none⟩ = some (.int .i64 a1_0) ∧ w'.cell? ⟨gb276, 1, none⟩ = some (.int .i64 a1_1) ∧ w'.cell? ⟨gb276, 2, none⟩ = some (.int .i64 a1_2) ∧ w'.cell? ⟨gb276, 3, none⟩ = some (.int .i64 a1_3) ∧ w'.cell? ⟨gb275, 0, none⟩ = some (.int .i64 a0_0) ∧ w'.cell? ⟨gb275, 1, none⟩ = some (.int .i64 a0_1) ∧ w'.cell? ⟨gb275, 2, none⟩ = some (.int .i64 a0_2) ∧ w'.cell? ⟨gb275, 3, none⟩ = some (.int .i64 a0_3)) (ds := []) #[F, F, F, F, F, F, F, F, F, F, F, F, F, F, F, F, F, F] (by kernel_rfl) rfl rfl ⟨(blk_cell BK276.out 0).trans rfl, (blk_cell BK276.out 1).trans rfl, (blk_cell BK276.out 2).trans rfl, (blk_cell BK276.out 3).trans rfl, (blk_cell BK275.out 0).trans rfl, (blk_cell BK275.out 1).trans rfl, (blk_cell BK275.out 2).trans rfl, (blk_cell BK275.out 3).trans rfl⟩ (fun hHeld => ?_); refine with_tabW mapmakerref09_Relate.tab4 mapmakerref09_Relate.bits4 (fun HT_ HW_ => ?_); generalize w48.drew = w49 at BK275 BK276 HB hHeld ⊢
    refine pure_ (i := 0) (N := some 58) (v := ?_) (a' := ?_) #[T, F, F, F, F, F, F, F, F, F, F, F, F, F, F, F, F, F] rfl rfl (any_of HT_.out (by kernel_rfl)) (fun _ _ _ h => h) (Or.inl ⟨by rfl, ?_⟩) ?_ ?_; rotate_left
    ·intro w'; go_simp; with_reducible rfl
    rotate_left
    ·go_simp
     rfl
    refine pure_ (i := 2) (N := some 60) (v := ?_) (a' := ?_) #[T, F, T, F, F, F, F, F, F, F, F, F, F, F, F, F, F, F] rfl rfl (any_of HT_.out (by kernel_rfl)) (fun _ _ _ h => h) (Or.inl ⟨by rfl, ?_⟩) ?_ ?_; rotate_left
    ·intro w'; go_simp; with_reducible rfl
    rotate_left
    ·go_simp
     rfl
    refine pure_ (i := 4) (N := some 62) (v := ?_) (a' := ?_) #[T, F, T, F, T, F, F, F, F, F, F, F, F, F, F, F, F, F] rfl rfl (any_of HT_.out (by kernel_rfl)) (fun _ _ _ h => h) (Or.inl ⟨by rfl, ?_⟩) ?_ ?_; rotate_left
    ·intro w'; go_simp; with_reducible rfl
    rotate_left
    ·go_simp
     rfl
    refine pure_ (i := 8) (N := some 66) (v := ?_) (a' := ?_) #[T, F, T, F, T, F, F, F, T, F, F, F, F, F, F, F, F, F] rfl rfl (any_of HT_.out (by kernel_rfl)) (fun _ _ _ h => h) (Or.inl ⟨by rfl, ?_⟩) ?_ ?_; rotate_left
    ·intro w'; go_simp; with_reducible rfl
    rotate_left
    ·go_simp
     rfl
    refine pure_ (i := 10) (N := some 68) (v := ?_) (a' := ?_) #[T, F, T, F, T, F, F, F, T, F, T, F, F, F, F, F, F, F] rfl rfl (any_of HT_.out (by kernel_rfl)) (fun _ _ _ h => h) (Or.inl ⟨by rfl, ?_⟩) ?_ ?_; rotate_left
    ·intro w'; go_simp; with_reducible rfl
    rotate_left
    ·go_simp
     rfl
    refine pure_ (i := 12) (N := some 70) (v := ?_) (a' := ?_) #[T, F, T, F, T, F, F, F, T, F, T, F, T, F, F, F, F, F] rfl rfl (any_of HT_.out (by kernel_rfl)) (fun _ _ _ h => h) (Or.inl ⟨by rfl, ?_⟩) ?_ ?_; rotate_left
    ·intro w'; go_simp; with_reducible rfl
    rotate_left
    ·go_simp
     rfl
    refine take_ (i := 1) (N := some 59) (v := ?_) (a' := ?_) #[T, T, T, F, T, F, F, F, T, F, T, F, T, F, F, F, F, F] rfl rfl (take_ofW HT_.out HW_.out (by kernel_rfl)) (fun _ _ _ h => h) (Or.inl ⟨by rfl, ?_⟩) hHeld ?_ ?_; rotate_left
    ·rintro w' ⟨s0, s1, s2, s3, s4, s5, s6, s7⟩; go_simp; with_reducible rfl
    rotate_left
    ·go_simp
     rfl
    refine take_ (i := 3) (N := some 61) (v := ?_) (a' := ?_) #[T, T, T, T, T, F, F, F, T, F, T, F, T, F, F, F, F, F] rfl rfl (take_ofW HT_.out HW_.out (by kernel_rfl)) (fun _ _ _ h => h) (Or.inl ⟨by rfl, ?_⟩) hHeld ?_ ?_; rotate_left
    ·rintro w' ⟨s0, s1, s2, s3, s4, s5, s6, s7⟩; go_simp; with_reducible rfl
    rotate_left
    ·go_simp
     rfl
    refine take_ (i := 5) (N := some 63) (v := ?_) (a' := ?_) #[T, T, T, T, T, T, F, F, T, F, T, F, T, F, F, F, F, F] rfl rfl (take_ofW HT_.out HW_.out (by kernel_rfl)) (fun _ _ _ h => h) (Or.inl ⟨by rfl, ?_⟩) hHeld ?_ ?_; rotate_left
    ·rintro w' ⟨s0, s1, s2, s3, s4, s5, s6, s7⟩; go_simp; with_reducible rfl
    rotate_left
    ·go_simp
     rfl
    refine take_ (i := 9) (N := some 67) (v := ?_) (a' := ?_) #[T, T, T, T, T, T, F, F, T, T, T, F, T, F, F, F, F, F] rfl rfl (take_ofW HT_.out HW_.out (by kernel_rfl)) (fun _ _ _ h => h) (Or.inl ⟨by rfl, ?_⟩) hHeld ?_ ?_; rotate_left
    ·rintro w' ⟨s0, s1, s2, s3, s4, s5, s6, s7⟩; go_simp; with_reducible rfl
    rotate_left
    ·go_simp
     rfl
    refine take_ (i := 11) (N := some 69) (v := ?_) (a' := ?_) #[T, T, T, T, T, T, F, F, T, T, T, T, T, F, F, F, F, F] rfl rfl (take_ofW HT_.out HW_.out (by kernel_rfl)) (fun _ _ _ h => h) (Or.inl ⟨by rfl, ?_⟩) hHeld ?_ ?_; rotate_left
    ·rintro w' ⟨s0, s1, s2, s3, s4, s5, s6, s7⟩; go_simp; with_reducible rfl
    rotate_left
    ·go_simp
     rfl
    refine take_ (i := 13) (N := some 71) (v := ?_) (a' := ?_) #[T, T, T, T, T, T, F, F, T, T, T, T, T, T, F, F, F, F] rfl rfl (take_ofW HT_.out HW_.out (by kernel_rfl)) (fun _ _ _ h => h) (Or.inl ⟨by rfl, ?_⟩) hHeld ?_ ?_; rotate_left
    ·rintro w' ⟨s0, s1, s2, s3, s4, s5, s6, s7⟩; go_simp; with_reducible rfl
    rotate_left
    ·go_simp
     rfl
    refine one_ (i := 6) (N := some 64) #[T, T, T, T, T, T, T, F, T, T, T, T, T, T, F, F, F, F] rfl rfl (one_of HT_.out (by kernel_rfl)) (by decide) (fun K hK => ?_); refine goes_ Try.func56 (by kernel_rfl) rfl #[.agg #[.int .i64 a1_0, .int .i64 a1_1], .agg #[.int .i64 a1_2, .int .i64 a1_3], .agg #[.int .i64 a0_0, .int .i64 a0_1]] (by rfl) rfl rfl (by (try simp only [List.map_toArray, List.map_cons, List.map_nil]); first | done | rfl | (simp only [List.length_drop, List.length_take]; rfl)) ?_; with_reducible refine (mapmakerref09_Turn.calls a1_0 a1_1 a1_2 a1_3 a0_0 a0_1 t283 _ A41.out).mono ?_
    rintro e w50 ⟨rfl, hb⟩; refine ⟨_, rfl, ?_⟩; have n0_ := Aside0.mk (blk_below (bI BK275.out) hb); have n1_ := Aside0.mk (blk_below (bI BK276.out) hb); have n2_ := Aside0.mk (below_step (by repeat with_reducible first | exact HB.out | refine bC ?_ | apply pw_below_drewN | refine below_set ?_ GE275.out | refine below_set ?_ GE276.out) hb); clear BK275 BK276 HB; have BK275 := n0_; have BK276 := n1_; have HB := n2_; clear n0_ n1_ n2_; (try clear hb); (try clear hb2); (try clear hk); (try clear hi); refine hK.out _ _ ⟨(blk_cell BK276.out 0).trans rfl, (blk_cell BK276.out 1).trans rfl, (blk_cell BK276.out 2).trans rfl, (blk_cell BK276.out 3).trans rfl, (blk_cell BK275.out 0).trans rfl, (blk_cell BK275.out 1).trans rfl, (blk_cell BK275.out 2).trans rfl, (blk_cell BK275.out 3).trans rfl⟩ (fun hHeld => ?_); clear hK K; refine norm_ (a' := ?_) ?_ ?_; rotate_left
    ·show Act.put _ (some 64) _ = _; go_simp; rfl
    refine one_ (i := 7) (N := some 65) #[T, T, T, T, T, T, T, T, T, T, T, T, T, T, F, F, F, F] rfl rfl (one_of HT_.out (by kernel_rfl)) (by decide) (fun K hK => ?_); refine goes_ Try.func55 (by kernel_rfl) rfl #[.int .i64 t283] (by rfl) rfl rfl (by (try simp only [List.map_toArray, List.map_cons, List.map_nil]); first | done | rfl | (simp only [List.length_drop, List.length_take]; rfl)) ?_; with_reducible refine (mapmakerref09_sign.calls t283 t284 _ A42.out).mono ?_
    rintro e w' ⟨rfl, ⟨nd, rfl⟩⟩; refine ⟨_, rfl, ?_⟩; refine hK.out _ _ ⟨(blk_cell BK276.out 0).trans rfl, (blk_cell BK276.out 1).trans rfl, (blk_cell BK276.out 2).trans rfl, (blk_cell BK276.out 3).trans rfl, (blk_cell BK275.out 0).trans rfl, (blk_cell BK275.out 1).trans rfl, (blk_cell BK275.out 2).trans rfl, (blk_cell BK275.out 3).trans rfl⟩ (fun hHeld => ?_); clear hK K; refine norm_ (a' := ?_) ?_ ?_; rotate_left
    ·show Act.put _ (some 65) _ = _; go_simp; rfl
    refine one_ (i := 14) (N := some 72) #[T, T, T, T, T, T, T, T, T, T, T, T, T, T, T, F, F, F] rfl rfl (one_of HT_.out (by kernel_rfl)) (by decide) (fun K hK => ?_); refine goes_ Try.func56 (by kernel_rfl) rfl #[.agg #[.int .i64 a1_0, .int .i64 a1_1], .agg #[.int .i64 a1_2, .int .i64 a1_3], .agg #[.int .i64 a0_2, .int .i64 a0_3]] (by rfl) rfl rfl (by (try simp only [List.map_toArray, List.map_cons, List.map_nil]); first | done | rfl | (simp only [List.length_drop, List.length_take]; rfl)) ?_; with_reducible refine (mapmakerref09_Turn.calls a1_0 a1_1 a1_2 a1_3 a0_2 a0_3 t285 _ A43.out).mono ?_
    rintro e w51 ⟨rfl, hb⟩; refine ⟨_, rfl, ?_⟩; have n0_ := Aside0.mk (blk_below (bI BK275.out) hb); have n1_ := Aside0.mk (blk_below (bI BK276.out) hb); have n2_ := Aside0.mk (below_step (by repeat with_reducible first | exact HB.out | refine bC ?_ | apply pw_below_drewN | refine below_set ?_ GE275.out | refine below_set ?_ GE276.out) hb); clear BK275 BK276 HB; have BK275 := n0_; have BK276 := n1_; have HB := n2_; clear n0_ n1_ n2_; (try clear hb); (try clear hb2); (try clear hk); (try clear hi); refine hK.out _ _ ⟨(blk_cell BK276.out 0).trans rfl, (blk_cell BK276.out 1).trans rfl, (blk_cell BK276.out 2).trans rfl, (blk_cell BK276.out 3).trans rfl, (blk_cell BK275.out 0).trans rfl, (blk_cell BK275.out 1).trans rfl, (blk_cell BK275.out 2).trans rfl, (blk_cell BK275.out 3).trans rfl⟩ (fun hHeld => ?_); clear hK K; refine norm_ (a' := ?_) ?_ ?_; rotate_left
    ·show Act.put _ (some 72) _ = _; go_simp; rfl
    refine one_ (i := 15) (N := some 73) #[T, T, T, T, T, T, T, T, T, T, T, T, T, T, T, T, F, F] rfl rfl (one_of HT_.out (by kernel_rfl)) (by decide) (fun K hK => ?_); refine goes_ Try.func55 (by kernel_rfl) rfl #[.int .i64 t285] (by rfl) rfl rfl (by (try simp only [List.map_toArray, List.map_cons, List.map_nil]); first | done | rfl | (simp only [List.length_drop, List.length_take]; rfl)) ?_; with_reducible refine (mapmakerref09_sign.calls t285 t286 _ A44.out).mono ?_
    rintro e w' ⟨rfl, ⟨nd, rfl⟩⟩; refine ⟨_, rfl, ?_⟩; refine hK.out _ _ ⟨(blk_cell BK276.out 0).trans rfl, (blk_cell BK276.out 1).trans rfl, (blk_cell BK276.out 2).trans rfl, (blk_cell BK276.out 3).trans rfl, (blk_cell BK275.out 0).trans rfl, (blk_cell BK275.out 1).trans rfl, (blk_cell BK275.out 2).trans rfl, (blk_cell BK275.out 3).trans rfl⟩ (fun hHeld => ?_); clear hK K; refine norm_ (a' := ?_) ?_ ?_; rotate_left
    ·show Act.put _ (some 73) _ = _; go_simp; rfl
    refine pure_ (i := 16) (N := some 7) (v := ?_) (a' := ?_) #[T, T, T, T, T, T, T, T, T, T, T, T, T, T, T, T, T, F] rfl rfl (any_of HT_.out (by kernel_rfl)) (fun _ _ _ h => h) (Or.inl ⟨by rfl, ?_⟩) ?_ ?_; rotate_left
    ·intro w'; go_simp; with_reducible rfl
    rotate_left
    ·go_simp
     rfl
    refine pure_ (i := 17) (N := some 8) (v := ?_) (a' := ?_) #[T, T, T, T, T, T, T, T, T, T, T, T, T, T, T, T, T, T] rfl rfl (any_of HT_.out (by kernel_rfl)) (fun _ _ _ h => h) (Or.inl ⟨by rfl, ?_⟩) ?_ ?_; rotate_left
    ·intro w'; go_simp; with_reducible rfl
    rotate_left
    ·go_simp
     rfl
    refine done_ (done_of HT_.out (by kernel_rfl)) ?_
    go_upto_region 5 with (fail)
    go_cut [83] (fun v83 wc => ∃ (kq : Nat) (x83_44 : Bool), v83 = .bool x83_44 ∧ Aside0 (mapmakerref09_Relate.j1 kq x83_44 a0_0 a0_1 a0_2 a0_3 a1_0 a1_1 a1_2 a1_3 = some r) ∧ Aside0 (kq ≤ kj2) ∧ Aside0 (wc.heap[gb275]? = some (.cells #[.int .i64 a0_0, .int .i64 a0_1, .int .i64 a0_2, .int .i64 a0_3] 45 (0, 0))) ∧ Aside0 (wc.heap[gb276]? = some (.cells #[.int .i64 a1_0, .int .i64 a1_1, .int .i64 a1_2, .int .i64 a1_3] 45 (0, 0))) ∧ Aside0 (Below w.heap.size w wc))
    case first =>
     have H := HC45.out; clear HC45
     by_cases c52 : (wrap64 (t280 * t282)) < 0
     ·rw [if_pos c52] at H
      have c52b0 : decide ((wrap64 (t280 * t282)) < 0) = true := decide_eq_true c52; clear c52; (first | rw [c52b0] | (simp only [i64_w, i32_w]; rw [c52b0]) | skip); have H' := Aside0.mk H; clear H
      go_wp2
      go_meet
      case rel => exact ⟨_, (decide ((wrap64 (t284 * t286)) < 0)), (by first | rfl | (simp; done) | (simp [*]; done)), H', ⟨by have := HJ2.out; first | omega | exact Nat.le_refl _⟩, ⟨by refine bI ?_; exact BK275.out⟩, ⟨by refine bI ?_; exact BK276.out⟩, ⟨by repeat with_reducible first | exact HB.out | refine bC ?_ | refine below_set ?_ GE275.out | refine below_set ?_ GE276.out⟩⟩
     ·rw [if_neg c52] at H
      have c52b0 : decide ((wrap64 (t280 * t282)) < 0) = false := decide_eq_false c52; clear c52; (first | rw [c52b0] | (simp only [i64_w, i32_w]; rw [c52b0]) | skip); have H' := Aside0.mk H; clear H
      go_wp2
      go_meet
      case rel => exact ⟨_, (false), (by first | rfl | (simp; done) | (simp [*]; done)), H', ⟨by have := HJ2.out; first | omega | exact Nat.le_refl _⟩, ⟨by refine bI ?_; exact BK275.out⟩, ⟨by refine bI ?_; exact BK276.out⟩, ⟨by repeat with_reducible first | exact HB.out | refine bC ?_ | refine below_set ?_ GE275.out | refine below_set ?_ GE276.out⟩⟩
    case rest =>
     clear HC45
     try clear p2
     try clear c3
     try clear c5
     try clear p6
     try clear c36
     try clear c52
     try clear c52b0
     try clear hcz15_0
     try clear hcz15_1
     try clear hcz15_2
     try clear hcz15_3
     try clear hcz17_0
     try clear hcz17_1
     try clear hcz17_2
     try clear hcz17_3
     try clear hcz19_0
     try clear hcz19_1
     try clear hcz19_2
     try clear hcz19_3
     try clear hcz20_0
     try clear hcz20_1
     try clear hcz20_2
     try clear hcz20_3
     try clear hcz22_0
     try clear hcz22_1
     try clear hcz22_2
     try clear hcz22_3
     try clear hcz24_0
     try clear hcz24_1
     try clear hcz24_2
     try clear hcz24_3
     try clear hcz25_0
     try clear hcz25_1
     try clear hcz25_2
     try clear hcz25_3
     try clear hcz27_0
     try clear hcz27_1
     try clear hcz27_2
     try clear hcz27_3
     try clear hcz28_0
     try clear hcz28_1
     try clear hcz28_2
     try clear hcz28_3
     try clear hcz30_0
     try clear hcz30_1
     try clear hcz30_2
     try clear hcz30_3
     try clear hcz33_0
     try clear hcz33_1
     try clear hcz33_2
     try clear hcz33_3
     try clear hcz34_0
     try clear hcz34_1
     try clear hcz34_2
     try clear hcz34_3
     try clear hfz12_0
     try clear hfz12_1
     try clear hfz12_2
     try clear hfz12_3
     try clear hfz13_0
     try clear hfz13_1
     try clear hfz13_2
     try clear hfz13_3
     try clear hfz15_0
     try clear hfz15_1
     try clear hfz15_2
     try clear hfz15_3
     try clear hfz17_0
     try clear hfz17_1
     try clear hfz17_2
     try clear hfz17_3
     try clear hfz19_0
     try clear hfz19_1
     try clear hfz19_2
     try clear hfz19_3
     try clear hfz20_0
     try clear hfz20_1
     try clear hfz20_2
     try clear hfz20_3
     try clear hfz22_0
     try clear hfz22_1
     try clear hfz22_2
     try clear hfz22_3
     try clear hfz24_0
     try clear hfz24_1
     try clear hfz24_2
     try clear hfz24_3
     try clear hfz25_0
     try clear hfz25_1
     try clear hfz25_2
     try clear hfz25_3
     try clear hfz27_0
     try clear hfz27_1
     try clear hfz27_2
     try clear hfz27_3
     try clear hfz28_0
     try clear hfz28_1
     try clear hfz28_2
     try clear hfz28_3
     try clear hfz30_0
     try clear hfz30_1
     try clear hfz30_2
     try clear hfz30_3
     try clear hfz33_0
     try clear hfz33_1
     try clear hfz33_2
     try clear hfz33_3
     try clear hfz34_0
     try clear hfz34_1
     try clear hfz34_2
     try clear hfz34_3
     obtain ⟨kq, x83_44, rfl, HA, HJ44, BK275, BK276, HB⟩ := hcut
     cases kq with
     | zero => exact absurd HA.out (by simp [mapmakerref09_Relate.j1])
     | succ kj44 =>
      have H := HA.out; clear HA; simp only [mapmakerref09_Relate.j1] at H
      by_cases c53 : x83_44 = true
      ·subst c53; have H1 : (some 2) = some r := by rw [if_pos rfl] at H; exact H
       clear H; have H := H1; clear H1; obtain rfl := Option.some.inj H
       go_wp2
       go_ret
       exact ⟨by first | rfl | (simp [errW_none, errW_some] <;> rfl) | (simp [*, errW_none, errW_some] <;> rfl), by repeat with_reducible first | exact HB.out | refine bC ?_ | refine below_set ?_ GE275.out | refine below_set ?_ GE276.out⟩
      ·replace c53 := Bool.eq_false_iff.mpr c53; subst c53; have H1 : (mapmakerref09_Relate.l0 kj44 (([(⟨a0_0, a0_1⟩ : S30), (⟨a0_2, a0_3⟩ : S30), (⟨a1_0, a1_1⟩ : S30), (⟨a1_2, a1_3⟩ : S30)] : List (S30))) ([] : List (S30)) 0 a0_0 a0_1 a0_2 a0_3 a1_0 a1_1 a1_2 a1_3) = some r := by rw [if_neg (show ¬ (false = true) by decide)] at H; exact H
       clear H; have H := H1; clear H1; obtain ⟨y287, hy287⟩ : ∃ y_ : List (S30), y_ = (([(⟨a0_0, a0_1⟩ : S30), (⟨a0_2, a0_3⟩ : S30), (⟨a1_0, a1_1⟩ : S30), (⟨a1_2, a1_3⟩ : S30)] : List (S30))) := ⟨_, rfl⟩; replace H : (mapmakerref09_Relate.l0 kj44 y287 ([] : List (S30)) 0 a0_0 a0_1 a0_2 a0_3 a1_0 a1_1 a1_2 a1_3) = some r := by first | (rw [hy287]; with_reducible exact H) | (have H2_ := (Option.bind_some _ _).symm.trans H; rw [hy287]; with_reducible exact H2_) | (have H2_ := (Option.bind_some _ _).symm.trans H; with_reducible exact H2_) | with_reducible exact H | (rw [hy287]; exact H) | exact H
       have Ny287 := Aside0.mk hy287; clear hy287; have H' := Aside0.mk H; clear H; have hnb54 := NB275_276.out; have hnc54 := NB276_275.out; have hcz55_0 : wc.cell? ⟨gb275, 0, none⟩ = some (.int .i64 a0_0) := (blk_cell BK275.out 0).trans rfl; have hcz55_1 : wc.cell? ⟨gb275, 1, none⟩ = some (.int .i64 a0_1) := (blk_cell BK275.out 1).trans rfl; have hcz55_2 : wc.cell? ⟨gb275, 2, none⟩ = some (.int .i64 a0_2) := (blk_cell BK275.out 2).trans rfl; have hcz55_3 : wc.cell? ⟨gb275, 3, none⟩ = some (.int .i64 a0_3) := (blk_cell BK275.out 3).trans rfl; have hfz55_0 := blk_frozen BK275.out 0; have hfz55_1 := blk_frozen BK275.out 1; have hfz55_2 := blk_frozen BK275.out 2; have hfz55_3 := blk_frozen BK275.out 3; have hcz56_0 : wc.cell? ⟨gb276, 0, none⟩ = some (.int .i64 a1_0) := (blk_cell BK276.out 0).trans rfl; have hcz56_1 : wc.cell? ⟨gb276, 1, none⟩ = some (.int .i64 a1_1) := (blk_cell BK276.out 1).trans rfl; have hcz56_2 : wc.cell? ⟨gb276, 2, none⟩ = some (.int .i64 a1_2) := (blk_cell BK276.out 2).trans rfl; have hcz56_3 : wc.cell? ⟨gb276, 3, none⟩ = some (.int .i64 a1_3) := (blk_cell BK276.out 3).trans rfl; have hfz56_0 := blk_frozen BK276.out 0; have hfz56_1 := blk_frozen BK276.out 1; have hfz56_2 := blk_frozen BK276.out 2; have hfz56_3 := blk_frozen BK276.out 3
       go_wp2_with (first | ((with_reducible refine gate_dst (N := 92) rfl ?_); refine Kd.R_lit k30 _ 30 ?hg (N := 92) ?hd (xs := ([(⟨a0_0, a0_1⟩ : S30), (⟨a0_2, a0_3⟩ : S30), (⟨a1_0, a1_1⟩ : S30), (⟨a1_2, a1_3⟩ : S30)] : List (S30))) (inner := [.int .i64 a0_0, .int .i64 a0_1, .int .i64 a0_2, .int .i64 a0_3, .int .i64 a1_0, .int .i64 a1_1, .int .i64 a1_2, .int .i64 a1_3]) (ok := fun _ => True) (okp := fun _ => True) ?hr ?hp (fun _ hk => hk) trivial (Below.refl _ _) (Nat.le_refl _) (by simp) ?_; (case hd => rfl); (case hg => rfl); (case hr => first | (go_simp; done) | (go_simp; rfl)); (case hp => exact (Reps.c2 (show Kd.M k30 _ _ _ (⟨a0_0, a0_1⟩ : S30) [.int .i64 a0_0, .int .i64 a0_1] from (k30_mkM _ _ _ (⟨a0_0, a0_1⟩ : S30) )) (Reps.c2 (show Kd.M k30 _ _ _ (⟨a0_2, a0_3⟩ : S30) [.int .i64 a0_2, .int .i64 a0_3] from (k30_mkM _ _ _ (⟨a0_2, a0_3⟩ : S30) )) (Reps.c2 (show Kd.M k30 _ _ _ (⟨a1_0, a1_1⟩ : S30) [.int .i64 a1_0, .int .i64 a1_1] from (k30_mkM _ _ _ (⟨a1_0, a1_1⟩ : S30) )) (Reps.c2 (show Kd.M k30 _ _ _ (⟨a1_2, a1_3⟩ : S30) [.int .i64 a1_2, .int .i64 a1_3] from (k30_mkM _ _ _ (⟨a1_2, a1_3⟩ : S30) )) (Reps.none _ _)))))); intro v288 w57 ho58 hb hg_ hnew_; clear hg_ hnew_; (first | rw [← Ny287.out] at ho58 | (simp only [Int.reduceToNat] at ho58; rw [← Ny287.out] at ho58)); have n0_ := Aside0.mk (Kd.R_lower ho58 (below_size (by repeat with_reducible first | exact HB.out | refine bC ?_ | refine below_set ?_ GE275.out | refine below_set ?_ GE276.out))); have n1_ := Aside0.mk (blk_below (bI BK275.out) hb); have n2_ := Aside0.mk (blk_below (bI BK276.out) hb); have n3_ := Aside0.mk (below_step (by repeat with_reducible first | exact HB.out | refine bC ?_ | apply pw_below_drewN | refine below_set ?_ GE275.out | refine below_set ?_ GE276.out) hb); clear BK275 BK276 HB; have HO289 := n0_; have BK275 := n1_; have BK276 := n2_; have HB := n3_; clear n0_ n1_ n2_ n3_ hb ho58))
       go_loopg [10, 11] kj44 (fun kq v10 v11 w' => ∃ (x10_3 : List (S30)) (x11_3 : Int), v11 = .int .i64 x11_3 ∧ Aside0 (mapmakerref09_Relate.l0 kq y287 x10_3 x11_3 a0_0 a0_1 a0_2 a0_3 a1_0 a1_1 a1_2 a1_3 = some r) ∧ Aside0 (kq ≤ kj44) ∧ Aside0 (Kd.R k30 30 w' w.heap.size (fun k_ => some k_ ≠ (v10 : Value).ownBlock) v288 y287) ∧ Aside0 (Kd.R k30 30 w' w.heap.size (fun k_ => some k_ ≠ (v288 : Value).ownBlock) v10 x10_3) ∧ Aside0 (w'.heap[gb275]? = some (.cells #[.int .i64 a0_0, .int .i64 a0_1, .int .i64 a0_2, .int .i64 a0_3] 45 (0, 0))) ∧ Aside0 (w'.heap[gb276]? = some (.cells #[.int .i64 a1_0, .int .i64 a1_1, .int .i64 a1_2, .int .i64 a1_3] 45 (0, 0))) ∧ Aside0 (Below w.heap.size w w'))
       case atStart => exact ⟨(([] : List (S30))), (0), (by first | rfl | (simp; done) | (simp [*]; done)), H', ⟨Nat.le_refl _⟩, ⟨by (with_reducible repeat (first | apply Kd.R_alloc | apply Kd.R_drewN | apply Kd.R_drew)); exact Kd.R_mono HO289.out (fun _ hk => (by simp [Value.ownBlock]))⟩, ⟨by first | exact Kd.R_nil _ _ _ _ _ | exact Kd.N_nil _ _ _ _ _ | exact Kd.V_nil _ _ _ _ _ | exact Kd.Q_nil _ _ _ _ _ | exact Kd.S_nil _ _ _ _ _⟩, ⟨by refine bI ?_; exact BK275.out⟩, ⟨by refine bI ?_; exact BK276.out⟩, ⟨by repeat with_reducible first | exact HB.out | refine bC ?_ | refine below_set ?_ GE275.out | refine below_set ?_ GE276.out⟩⟩
       case round =>
        clear H'
        try clear c2
        try clear p2
        try clear c3
        try clear c5
        try clear p6
        try clear c36
        try clear c52
        try clear c52b0
        try clear c53
        try clear c54
        try clear c55
        try clear c56
        try clear hcz15_0
        try clear hcz15_1
        try clear hcz15_2
        try clear hcz15_3
        try clear hcz17_0
        try clear hcz17_1
        try clear hcz17_2
        try clear hcz17_3
        try clear hcz19_0
        try clear hcz19_1
        try clear hcz19_2
        try clear hcz19_3
        try clear hcz20_0
        try clear hcz20_1
        try clear hcz20_2
        try clear hcz20_3
        try clear hcz22_0
        try clear hcz22_1
        try clear hcz22_2
        try clear hcz22_3
        try clear hcz24_0
        try clear hcz24_1
        try clear hcz24_2
        try clear hcz24_3
        try clear hcz25_0
        try clear hcz25_1
        try clear hcz25_2
        try clear hcz25_3
        try clear hcz27_0
        try clear hcz27_1
        try clear hcz27_2
        try clear hcz27_3
        try clear hcz28_0
        try clear hcz28_1
        try clear hcz28_2
        try clear hcz28_3
        try clear hcz30_0
        try clear hcz30_1
        try clear hcz30_2
        try clear hcz30_3
        try clear hcz33_0
        try clear hcz33_1
        try clear hcz33_2
        try clear hcz33_3
        try clear hcz34_0
        try clear hcz34_1
        try clear hcz34_2
        try clear hcz34_3
        try clear hcz55_0
        try clear hcz55_1
        try clear hcz55_2
        try clear hcz55_3
        try clear hcz56_0
        try clear hcz56_1
        try clear hcz56_2
        try clear hcz56_3
        try clear hfz12_0
        try clear hfz12_1
        try clear hfz12_2
        try clear hfz12_3
        try clear hfz13_0
        try clear hfz13_1
        try clear hfz13_2
        try clear hfz13_3
        try clear hfz15_0
        try clear hfz15_1
        try clear hfz15_2
        try clear hfz15_3
        try clear hfz17_0
        try clear hfz17_1
        try clear hfz17_2
        try clear hfz17_3
        try clear hfz19_0
        try clear hfz19_1
        try clear hfz19_2
        try clear hfz19_3
        try clear hfz20_0
        try clear hfz20_1
        try clear hfz20_2
        try clear hfz20_3
        try clear hfz22_0
        try clear hfz22_1
        try clear hfz22_2
        try clear hfz22_3
        try clear hfz24_0
        try clear hfz24_1
        try clear hfz24_2
        try clear hfz24_3
        try clear hfz25_0
        try clear hfz25_1
        try clear hfz25_2
        try clear hfz25_3
        try clear hfz27_0
        try clear hfz27_1
        try clear hfz27_2
        try clear hfz27_3
        try clear hfz28_0
        try clear hfz28_1
        try clear hfz28_2
        try clear hfz28_3
        try clear hfz30_0
        try clear hfz30_1
        try clear hfz30_2
        try clear hfz30_3
        try clear hfz33_0
        try clear hfz33_1
        try clear hfz33_2
        try clear hfz33_3
        try clear hfz34_0
        try clear hfz34_1
        try clear hfz34_2
        try clear hfz34_3
        try clear hfz55_0
        try clear hfz55_1
        try clear hfz55_2
        try clear hfz55_3
        try clear hfz56_0
        try clear hfz56_1
        try clear hfz56_2
        try clear hfz56_3
        try clear p2
        try clear p6
        obtain ⟨x10_3, x11_3, rfl, HA, HK3, HO_9, HO_10, BK275, BK276, HB⟩ := hrel
        cases gk with
        | zero => exact absurd HA.out (by simp [mapmakerref09_Relate.l0])
        | succ k3 =>
         have H := HA.out; clear HA; simp only [mapmakerref09_Relate.l0] at H
         by_cases c59 : x11_3 < 4
         ·rw [if_pos c59] at H
          have c59b0 : decide (x11_3 < 4) = true := decide_eq_true c59; clear c59; have HC60 := Aside0.mk H; clear H
          go_upto_region 12 with (fail)
          go_cut [118] (fun v118 wc => ∃ (kq : Nat) (x118_59 : Bool), v118 = .bool x118_59 ∧ Aside0 (mapmakerref09_Relate.j3 kq y287 x10_3 x11_3 x118_59 a0_0 a0_1 a0_2 a0_3 a1_0 a1_1 a1_2 a1_3 = some r) ∧ Aside0 (kq ≤ k3) ∧ Aside0 (Kd.R k30 30 wc w.heap.size (fun k_ => some k_ ≠ (u10 : Value).ownBlock) v288 y287) ∧ Aside0 (Kd.R k30 30 wc w.heap.size (fun k_ => some k_ ≠ (v288 : Value).ownBlock) u10 x10_3) ∧ Aside0 (wc.heap[gb275]? = some (.cells #[.int .i64 a0_0, .int .i64 a0_1, .int .i64 a0_2, .int .i64 a0_3] 45 (0, 0))) ∧ Aside0 (wc.heap[gb276]? = some (.cells #[.int .i64 a1_0, .int .i64 a1_1, .int .i64 a1_2, .int .i64 a1_3] 45 (0, 0))) ∧ Aside0 (Below w.heap.size w wc))
          case first =>
           have H := HC60.out; clear HC60
           by_cases c61 : 0 ≤ x11_3
           ·rw [if_pos c61] at H
            have c61b0 : decide (0 ≤ x11_3) = true := decide_eq_true c61; clear c61; (first | rw [c61b0] | (simp only [i64_w, i32_w]; rw [c61b0]) | skip)
            by_cases c62 : x11_3 < (y287.length : Int)
            ·rw [if_pos c62] at H
             have c62b0 : decide (x11_3 < (y287.length : Int)) = true := decide_eq_true c62; clear c62; replace H := Option.bind_eq_some_iff.mp H; obtain ⟨t291, A630, H⟩ := H; replace H : (if t291 = true then ((mapmakerref09_On.f ((rd_T30 y287 x11_3).f0) ((rd_T30 y287 x11_3).f1) a1_0 a1_1 a1_2 a1_3).bind fun t293 => (mapmakerref09_Relate.j3 k3 y287 x10_3 x11_3 (!t293) a0_0 a0_1 a0_2 a0_3 a1_0 a1_1 a1_2 a1_3)) else (mapmakerref09_Relate.j3 k3 y287 x10_3 x11_3 true a0_0 a0_1 a0_2 a0_3 a1_0 a1_1 a1_2 a1_3)) = some r := H; have A63 := Aside0.mk A630; clear A630
             by_cases c64 : t291 = true
             ·subst c64; have H1 : ((mapmakerref09_On.f ((rd_T30 y287 x11_3).f0) ((rd_T30 y287 x11_3).f1) a1_0 a1_1 a1_2 a1_3).bind fun t293 => (mapmakerref09_Relate.j3 k3 y287 x10_3 x11_3 (!t293) a0_0 a0_1 a0_2 a0_3 a1_0 a1_1 a1_2 a1_3)) = some r := by rw [if_pos rfl] at H; exact H
              clear H; have H := H1; clear H1; replace H := Option.bind_eq_some_iff.mp H; obtain ⟨t293, A650, H⟩ := H; replace H : (mapmakerref09_Relate.j3 k3 y287 x10_3 x11_3 (!t293) a0_0 a0_1 a0_2 a0_3 a1_0 a1_1 a1_2 a1_3) = some r := H; have A65 := Aside0.mk A650; clear A650; have H' := Aside0.mk H; clear H
              try go_wp2
              have n0_ := Aside0.mk (Kd.R_drew HO_9.out); have n1_ := Aside0.mk (Kd.R_drew HO_10.out); have n2_ := Aside0.mk (blk_drew BK275.out); have n3_ := Aside0.mk (blk_drew BK276.out); have n4_ := Aside0.mk (below_drew1 HB.out); clear HO_9 HO_10 BK275 BK276 HB; have HO_9 := n0_; have HO_10 := n1_; have BK275 := n2_; have BK276 := n3_; have HB := n4_; clear n0_ n1_ n2_ n3_ n4_; obtain ⟨Ao67, co67, eo67⟩ := Kd.R_slice HO_9.out; (first | subst eo67 | (injection eo67 with f1_ f2_ f3_; have f4_ := f1_.symm; have f5_ := f3_.symm; clear f1_ f2_ f3_; subst f4_; subst f5_)); have p290 : 0 ≤ (x11_3 : Int) := of_decide_eq_true (by first | (with_reducible assumption) | assumption); have q290 : x11_3 < (y287.length : Int) := of_decide_eq_true (by first | (with_reducible assumption) | assumption); obtain ⟨ad290, e290, hx290_0, hx290_1⟩ := at_T30 (Kd.R_reads' HO_9.out).2.2 x11_3 p290 q290
              cases e290
              replace p290 := eq_true p290; replace q290 := eq_true q290; have p292 : 0 ≤ (x11_3 : Int) := of_decide_eq_true (by first | (with_reducible assumption) | assumption); have q292 : x11_3 < (y287.length : Int) := of_decide_eq_true (by first | (with_reducible assumption) | assumption); obtain ⟨ad292, e292, hx292_0, hx292_1⟩ := at_T30 (Kd.R_reads' HO_9.out).2.2 x11_3 p292 q292; obtain rfl : ad290 = ad292 := (by injection e292); replace p292 := eq_true p292; replace q292 := eq_true q292; refine start_ (n := 22) (S := fun w' => w'.cell? ⟨gb275, 0, none⟩ = some (.int .i64 a0_0) ∧ w'.cell? ⟨gb275, 1, none⟩ = some (.int .i64 a0_1) ∧ w'.cell? ⟨gb275, 2, none⟩ = some (.int .i64 a0_2) ∧ w'.cell? ⟨gb275, 3, none⟩ = some (.int .i64 a0_3) ∧ w'.cell? ⟨gb276, 0, none⟩ = some (.int .i64 a1_0) ∧ w'.cell? ⟨gb276, 1, none⟩ = some (.int .i64 a1_1) ∧ w'.cell? ⟨gb276, 2, none⟩ = some (.int .i64 a1_2) ∧ w'.cell? ⟨gb276, 3, none⟩ = some (.int .i64 a1_3) ∧ w'.cell? (ad290.add ((x11_3).toNat * 2)) = some (.int .i64 ((rd_T30 y287 x11_3).f0)) ∧ w'.cell? ⟨(ad290.add ((x11_3).toNat * 2)).block, (ad290.add ((x11_3).toNat * 2)).off + 1, none⟩ = some (.int .i64 ((rd_T30 y287 x11_3).f1)) ∧ w'.cell? (ad290.add ((x11_3).toNat * 2)) = some (.int .i64 ((rd_T30 y287 x11_3).f0)) ∧ w'.cell? ⟨(ad290.add ((x11_3).toNat * 2)).block, (ad290.add ((x11_3).toNat * 2)).off + 1, none⟩ = some (.int .i64 ((rd_T30 y287 x11_3).f1))) (ds := []) #[F, F, F, F, F, F, F, F, F, F, F, F, F, F, F, F, F, F, F, F, F, F] (by kernel_rfl) rfl rfl ⟨(blk_cell BK275.out 0).trans rfl, (blk_cell BK275.out 1).trans rfl, (blk_cell BK275.out 2).trans rfl, (blk_cell BK275.out 3).trans rfl, (blk_cell BK276.out 0).trans rfl, (blk_cell BK276.out 1).trans rfl, (blk_cell BK276.out 2).trans rfl, (blk_cell BK276.out 3).trans rfl, hx290_0, hx290_1, hx292_0, hx292_1⟩ (fun hHeld => ?_); refine with_tabW mapmakerref09_Relate.tab12 mapmakerref09_Relate.bits12 (fun HT_ HW_ => ?_); generalize wr.drew = w66 at HO_9 HO_10 BK275 BK276 HB hx290_0 hx290_1 hx292_0 hx292_1 hHeld ⊢
              refine pure_ (i := 0) (N := some 97) (v := ?_) (a' := ?_) #[T, F, F, F, F, F, F, F, F, F, F, F, F, F, F, F, F, F, F, F, F, F] rfl rfl (any_of HT_.out (by kernel_rfl)) (fun _ _ _ h => h) (Or.inl ⟨by rfl, ?_⟩) ?_ ?_; rotate_left
              ·intro w'; go_simp; with_reducible rfl
              rotate_left
              ·go_simp
               rfl
              refine pure_ (i := 1) (N := some 98) (v := ?_) (a' := ?_) #[T, T, F, F, F, F, F, F, F, F, F, F, F, F, F, F, F, F, F, F, F, F] rfl rfl (any_of HT_.out (by kernel_rfl)) (fun _ _ _ h => h) (Or.inl ⟨by rfl, ?_⟩) ?_ ?_; rotate_left
              ·intro w'; go_simp; with_reducible rfl
              rotate_left
              ·go_simp
               rfl
              refine pure_ (i := 2) (N := some 99) (v := ?_) (a' := ?_) #[T, T, T, F, F, F, F, F, F, F, F, F, F, F, F, F, F, F, F, F, F, F] rfl rfl (any_of HT_.out (by kernel_rfl)) (fun _ _ _ h => h) (Or.inl ⟨by rfl, ?_⟩) ?_ ?_; rotate_left
              ·intro w'; go_simp; with_reducible rfl
              rotate_left
              ·go_simp
               rfl
              refine pure_ (i := 4) (N := some 101) (v := ?_) (a' := ?_) #[T, T, T, F, T, F, F, F, F, F, F, F, F, F, F, F, F, F, F, F, F, F] rfl rfl (any_of HT_.out (by kernel_rfl)) (fun _ _ _ h => h) (Or.inl ⟨by rfl, ?_⟩) ?_ ?_; rotate_left
              ·intro w'; go_simp; with_reducible rfl
              rotate_left
              ·go_simp
               rfl
              refine pure_ (i := 6) (N := some 103) (v := ?_) (a' := ?_) #[T, T, T, F, T, F, T, F, F, F, F, F, F, F, F, F, F, F, F, F, F, F] rfl rfl (any_of HT_.out (by kernel_rfl)) (fun _ _ _ h => h) (Or.inl ⟨by rfl, ?_⟩) ?_ ?_; rotate_left
              ·intro w'; go_simp; with_reducible rfl
              rotate_left
              ·go_simp
               rfl
              refine take_ (i := 3) (N := some 100) (v := ?_) (a' := ?_) #[T, T, T, T, T, F, T, F, F, F, F, F, F, F, F, F, F, F, F, F, F, F] rfl rfl (take_ofW HT_.out HW_.out (by kernel_rfl)) (fun _ _ _ h => h) (Or.inl ⟨by rfl, ?_⟩) hHeld ?_ ?_; rotate_left
              ·rintro w' ⟨s0, s1, s2, s3, s4, s5, s6, s7, s8, s9, s10, s11⟩; go_simp; with_reducible rfl
              rotate_left
              ·go_simp
               rfl
              refine take_ (i := 5) (N := some 102) (v := ?_) (a' := ?_) #[T, T, T, T, T, T, T, F, F, F, F, F, F, F, F, F, F, F, F, F, F, F] rfl rfl (take_ofW HT_.out HW_.out (by kernel_rfl)) (fun _ _ _ h => h) (Or.inl ⟨by rfl, ?_⟩) hHeld ?_ ?_; rotate_left
              ·rintro w' ⟨s0, s1, s2, s3, s4, s5, s6, s7, s8, s9, s10, s11⟩; go_simp; with_reducible rfl
              rotate_left
              ·go_simp
               rfl
              refine take_ (i := 7) (N := some 104) (v := ?_) (a' := ?_) #[T, T, T, T, T, T, T, T, F, F, F, F, F, F, F, F, F, F, F, F, F, F] rfl rfl (take_ofW HT_.out HW_.out (by kernel_rfl)) (fun _ _ _ h => h) (Or.inl ⟨by rfl, ?_⟩) hHeld ?_ ?_; rotate_left
              ·rintro w' ⟨s0, s1, s2, s3, s4, s5, s6, s7, s8, s9, s10, s11⟩; go_simp; with_reducible rfl
              rotate_left
              ·go_simp
               rfl
              refine one_ (i := 8) (N := some 105) #[T, T, T, T, T, T, T, T, T, F, F, F, F, F, F, F, F, F, F, F, F, F] rfl rfl (one_of HT_.out (by kernel_rfl)) (by decide) (fun K hK => ?_); refine goes_ Try.func42 (by kernel_rfl) rfl #[.agg #[.int .i64 ((rd_T30 y287 x11_3).f0), .int .i64 ((rd_T30 y287 x11_3).f1)], .agg #[.int .i64 a0_0, .int .i64 a0_1], .agg #[.int .i64 a0_2, .int .i64 a0_3]] (by rfl) rfl rfl (by (try simp only [List.map_toArray, List.map_cons, List.map_nil]); first | done | rfl | (simp only [List.length_drop, List.length_take]; rfl)) ?_; with_reducible refine (mapmakerref09_On.calls ((rd_T30 y287 x11_3).f0) ((rd_T30 y287 x11_3).f1) a0_0 a0_1 a0_2 a0_3 true _ A63.out).mono ?_
              rintro e w68 ⟨rfl, hb⟩; have HS8_ := (hb.cell (World.block_lt_of_cell? _ _ (hHeld.2.2.2.2.2.2.2.2.1))).trans (hHeld.2.2.2.2.2.2.2.2.1); have HS9_ := (hb.cell (World.block_lt_of_cell? _ _ (hHeld.2.2.2.2.2.2.2.2.2.1))).trans (hHeld.2.2.2.2.2.2.2.2.2.1); have HS10_ := (hb.cell (World.block_lt_of_cell? _ _ (hHeld.2.2.2.2.2.2.2.2.2.2.1))).trans (hHeld.2.2.2.2.2.2.2.2.2.2.1); have HS11_ := (hb.cell (World.block_lt_of_cell? _ _ (hHeld.2.2.2.2.2.2.2.2.2.2.2))).trans (hHeld.2.2.2.2.2.2.2.2.2.2.2); refine ⟨_, rfl, ?_⟩; have n0_ := Aside0.mk (Kd.R_below (by (with_reducible repeat (first | apply Kd.R_alloc | apply Kd.R_drewN | apply Kd.R_drew)); exact HO_9.out) hb); have n1_ := Aside0.mk (Kd.R_below (by (with_reducible repeat (first | apply Kd.R_alloc | apply Kd.R_drewN | apply Kd.R_drew)); exact HO_10.out) hb); have n2_ := Aside0.mk (blk_below (bI BK275.out) hb); have n3_ := Aside0.mk (blk_below (bI BK276.out) hb); have n4_ := Aside0.mk (below_step (by repeat with_reducible first | exact HB.out | refine bC ?_ | apply pw_below_drewN | refine below_set ?_ GE275.out | refine below_set ?_ GE276.out) hb); clear HO_9 HO_10 BK275 BK276 HB; have HO_9 := n0_; have HO_10 := n1_; have BK275 := n2_; have BK276 := n3_; have HB := n4_; clear n0_ n1_ n2_ n3_ n4_; (try clear hb); (try clear hb2); (try clear hk); (try clear hi); refine hK.out _ _ ⟨(blk_cell BK275.out 0).trans rfl, (blk_cell BK275.out 1).trans rfl, (blk_cell BK275.out 2).trans rfl, (blk_cell BK275.out 3).trans rfl, (blk_cell BK276.out 0).trans rfl, (blk_cell BK276.out 1).trans rfl, (blk_cell BK276.out 2).trans rfl, (blk_cell BK276.out 3).trans rfl, HS8_, HS9_, HS10_, HS11_⟩ (fun hHeld => ?_); clear hK K; refine norm_ (a' := ?_) ?_ ?_; rotate_left
              ·show Act.put _ (some 105) _ = _; go_simp; rfl
              refine pure_ (i := 9) (N := some 106) (v := ?_) (a' := ?_) #[T, T, T, T, T, T, T, T, T, T, F, F, F, F, F, F, F, F, F, F, F, F] rfl rfl (any_of HT_.out (by kernel_rfl)) (fun _ _ _ h => h) (Or.inl ⟨by rfl, ?_⟩) ?_ ?_; rotate_left
              ·intro w'; go_simp; with_reducible rfl
              rotate_left
              ·go_simp
               rfl
              refine pure_ (i := 10) (N := some 107) (v := ?_) (a' := ?_) #[T, T, T, T, T, T, T, T, T, T, T, F, F, F, F, F, F, F, F, F, F, F] rfl rfl (any_of HT_.out (by kernel_rfl)) (fun _ _ _ h => h) (Or.inl ⟨by rfl, ?_⟩) ?_ ?_; rotate_left
              ·intro w'; go_simp; with_reducible rfl
              rotate_left
              ·go_simp
               rfl
              refine pure_ (i := 11) (N := some 108) (v := ?_) (a' := ?_) #[T, T, T, T, T, T, T, T, T, T, T, T, F, F, F, F, F, F, F, F, F, F] rfl rfl (any_of HT_.out (by kernel_rfl)) (fun _ _ _ h => h) (Or.inl ⟨by rfl, ?_⟩) ?_ ?_; rotate_left
              ·intro w'; go_simp; with_reducible rfl
              rotate_left
              ·go_simp
               rfl
              refine pure_ (i := 12) (N := some 109) (v := ?_) (a' := ?_) #[T, T, T, T, T, T, T, T, T, T, T, T, T, F, F, F, F, F, F, F, F, F] rfl rfl (any_of HT_.out (by kernel_rfl)) (fun _ _ _ h => h) (Or.inl ⟨by rfl, ?_⟩) ?_ ?_; rotate_left
              ·intro w'; go_simp; with_reducible rfl
              rotate_left
              ·go_simp
               rfl
              refine pure_ (i := 13) (N := some 110) (v := ?_) (a' := ?_) #[T, T, T, T, T, T, T, T, T, T, T, T, T, T, F, F, F, F, F, F, F, F] rfl rfl (any_of HT_.out (by kernel_rfl)) (fun _ _ _ h => h) (Or.inl ⟨by rfl, ?_⟩) ?_ ?_; rotate_left
              ·intro w'; go_simp; with_reducible rfl
              rotate_left
              ·go_simp
               rfl
              refine pure_ (i := 15) (N := some 112) (v := ?_) (a' := ?_) #[T, T, T, T, T, T, T, T, T, T, T, T, T, T, F, T, F, F, F, F, F, F] rfl rfl (any_of HT_.out (by kernel_rfl)) (fun _ _ _ h => h) (Or.inl ⟨by rfl, ?_⟩) ?_ ?_; rotate_left
              ·intro w'; go_simp; with_reducible rfl
              rotate_left
              ·go_simp
               rfl
              refine pure_ (i := 17) (N := some 114) (v := ?_) (a' := ?_) #[T, T, T, T, T, T, T, T, T, T, T, T, T, T, F, T, F, T, F, F, F, F] rfl rfl (any_of HT_.out (by kernel_rfl)) (fun _ _ _ h => h) (Or.inl ⟨by rfl, ?_⟩) ?_ ?_; rotate_left
              ·intro w'; go_simp; with_reducible rfl
              rotate_left
              ·go_simp
               rfl
              refine take_ (i := 14) (N := some 111) (v := ?_) (a' := ?_) #[T, T, T, T, T, T, T, T, T, T, T, T, T, T, T, T, F, T, F, F, F, F] rfl rfl (take_ofW HT_.out HW_.out (by kernel_rfl)) (fun _ _ _ h => h) (Or.inl ⟨by rfl, ?_⟩) hHeld ?_ ?_; rotate_left
              ·rintro w' ⟨s0, s1, s2, s3, s4, s5, s6, s7, s8, s9, s10, s11⟩; go_simp; with_reducible rfl
              rotate_left
              ·go_simp
               rfl
              refine take_ (i := 16) (N := some 113) (v := ?_) (a' := ?_) #[T, T, T, T, T, T, T, T, T, T, T, T, T, T, T, T, T, T, F, F, F, F] rfl rfl (take_ofW HT_.out HW_.out (by kernel_rfl)) (fun _ _ _ h => h) (Or.inl ⟨by rfl, ?_⟩) hHeld ?_ ?_; rotate_left
              ·rintro w' ⟨s0, s1, s2, s3, s4, s5, s6, s7, s8, s9, s10, s11⟩; go_simp; with_reducible rfl
              rotate_left
              ·go_simp
               rfl
              refine take_ (i := 18) (N := some 115) (v := ?_) (a' := ?_) #[T, T, T, T, T, T, T, T, T, T, T, T, T, T, T, T, T, T, T, F, F, F] rfl rfl (take_ofW HT_.out HW_.out (by kernel_rfl)) (fun _ _ _ h => h) (Or.inl ⟨by rfl, ?_⟩) hHeld ?_ ?_; rotate_left
              ·rintro w' ⟨s0, s1, s2, s3, s4, s5, s6, s7, s8, s9, s10, s11⟩; go_simp; with_reducible rfl
              rotate_left
              ·go_simp
               rfl
              refine one_ (i := 19) (N := some 116) #[T, T, T, T, T, T, T, T, T, T, T, T, T, T, T, T, T, T, T, T, F, F] rfl rfl (one_of HT_.out (by kernel_rfl)) (by decide) (fun K hK => ?_); refine goes_ Try.func42 (by kernel_rfl) rfl #[.agg #[.int .i64 ((rd_T30 y287 x11_3).f0), .int .i64 ((rd_T30 y287 x11_3).f1)], .agg #[.int .i64 a1_0, .int .i64 a1_1], .agg #[.int .i64 a1_2, .int .i64 a1_3]] (by rfl) rfl rfl (by (try simp only [List.map_toArray, List.map_cons, List.map_nil]); first | done | rfl | (simp only [List.length_drop, List.length_take]; rfl)) ?_; with_reducible refine (mapmakerref09_On.calls ((rd_T30 y287 x11_3).f0) ((rd_T30 y287 x11_3).f1) a1_0 a1_1 a1_2 a1_3 t293 _ A65.out).mono ?_
              rintro e w69 ⟨rfl, hb⟩; have HS8_ := (hb.cell (World.block_lt_of_cell? _ _ (hHeld.2.2.2.2.2.2.2.2.1))).trans (hHeld.2.2.2.2.2.2.2.2.1); have HS9_ := (hb.cell (World.block_lt_of_cell? _ _ (hHeld.2.2.2.2.2.2.2.2.2.1))).trans (hHeld.2.2.2.2.2.2.2.2.2.1); have HS10_ := (hb.cell (World.block_lt_of_cell? _ _ (hHeld.2.2.2.2.2.2.2.2.2.2.1))).trans (hHeld.2.2.2.2.2.2.2.2.2.2.1); have HS11_ := (hb.cell (World.block_lt_of_cell? _ _ (hHeld.2.2.2.2.2.2.2.2.2.2.2))).trans (hHeld.2.2.2.2.2.2.2.2.2.2.2); refine ⟨_, rfl, ?_⟩; have n0_ := Aside0.mk (Kd.R_below (by (with_reducible repeat (first | apply Kd.R_alloc | apply Kd.R_drewN | apply Kd.R_drew)); exact HO_9.out) hb); have n1_ := Aside0.mk (Kd.R_below (by (with_reducible repeat (first | apply Kd.R_alloc | apply Kd.R_drewN | apply Kd.R_drew)); exact HO_10.out) hb); have n2_ := Aside0.mk (blk_below (bI BK275.out) hb); have n3_ := Aside0.mk (blk_below (bI BK276.out) hb); have n4_ := Aside0.mk (below_step (by repeat with_reducible first | exact HB.out | refine bC ?_ | apply pw_below_drewN | refine below_set ?_ GE275.out | refine below_set ?_ GE276.out) hb); clear HO_9 HO_10 BK275 BK276 HB; have HO_9 := n0_; have HO_10 := n1_; have BK275 := n2_; have BK276 := n3_; have HB := n4_; clear n0_ n1_ n2_ n3_ n4_; (try clear hb); (try clear hb2); (try clear hk); (try clear hi); refine hK.out _ _ ⟨(blk_cell BK275.out 0).trans rfl, (blk_cell BK275.out 1).trans rfl, (blk_cell BK275.out 2).trans rfl, (blk_cell BK275.out 3).trans rfl, (blk_cell BK276.out 0).trans rfl, (blk_cell BK276.out 1).trans rfl, (blk_cell BK276.out 2).trans rfl, (blk_cell BK276.out 3).trans rfl, HS8_, HS9_, HS10_, HS11_⟩ (fun hHeld => ?_); clear hK K; refine norm_ (a' := ?_) ?_ ?_; rotate_left
              ·show Act.put _ (some 116) _ = _; go_simp; rfl
              refine pure_ (i := 20) (N := some 117) (v := ?_) (a' := ?_) #[T, T, T, T, T, T, T, T, T, T, T, T, T, T, T, T, T, T, T, T, T, F] rfl rfl (any_of HT_.out (by kernel_rfl)) (fun _ _ _ h => h) (Or.inl ⟨by rfl, ?_⟩) ?_ ?_; rotate_left
              ·intro w'; go_simp; with_reducible rfl
              rotate_left
              ·go_simp
               rfl
              refine pure_ (i := 21) (N := some 118) (v := ?_) (a' := ?_) #[T, T, T, T, T, T, T, T, T, T, T, T, T, T, T, T, T, T, T, T, T, T] rfl rfl (any_of HT_.out (by kernel_rfl)) (fun _ _ _ h => h) (Or.inl ⟨by rfl, ?_⟩) ?_ ?_; rotate_left
              ·intro w'; go_simp; with_reducible rfl
              rotate_left
              ·go_simp
               rfl
              refine done_ (done_of HT_.out (by kernel_rfl)) ?_
              try go_wp2
              go_meet
              case rel => exact ⟨_, (!t293), (by first | rfl | (simp; done) | (simp [*]; done)), H', ⟨by have := HJ2.out; have := HJ44.out; have := HK3.out; first | omega | exact Nat.le_refl _⟩, ⟨by (with_reducible repeat (first | apply Kd.R_alloc | apply Kd.R_drewN | apply Kd.R_drew)); exact HO_9.out⟩, ⟨by (with_reducible repeat (first | apply Kd.R_alloc | apply Kd.R_drewN | apply Kd.R_drew)); exact HO_10.out⟩, ⟨by refine bI ?_; exact BK275.out⟩, ⟨by refine bI ?_; exact BK276.out⟩, ⟨by repeat with_reducible first | exact HB.out | refine bC ?_ | refine below_set ?_ GE275.out | refine below_set ?_ GE276.out⟩⟩
             ·replace c64 := Bool.eq_false_iff.mpr c64; subst c64; have H1 : (mapmakerref09_Relate.j3 k3 y287 x10_3 x11_3 true a0_0 a0_1 a0_2 a0_3 a1_0 a1_1 a1_2 a1_3) = some r := by rw [if_neg (show ¬ (false = true) by decide)] at H; exact H
              clear H; have H := H1; clear H1; have H' := Aside0.mk H; clear H
              try go_wp2
              have n0_ := Aside0.mk (Kd.R_drew HO_9.out); have n1_ := Aside0.mk (Kd.R_drew HO_10.out); have n2_ := Aside0.mk (blk_drew BK275.out); have n3_ := Aside0.mk (blk_drew BK276.out); have n4_ := Aside0.mk (below_drew1 HB.out); clear HO_9 HO_10 BK275 BK276 HB; have HO_9 := n0_; have HO_10 := n1_; have BK275 := n2_; have BK276 := n3_; have HB := n4_; clear n0_ n1_ n2_ n3_ n4_; obtain ⟨Ao71, co71, eo71⟩ := Kd.R_slice HO_9.out; (first | subst eo71 | (injection eo71 with f1_ f2_ f3_; have f4_ := f1_.symm; have f5_ := f3_.symm; clear f1_ f2_ f3_; subst f4_; subst f5_)); have p290 : 0 ≤ (x11_3 : Int) := of_decide_eq_true (by first | (with_reducible assumption) | assumption); have q290 : x11_3 < (y287.length : Int) := of_decide_eq_true (by first | (with_reducible assumption) | assumption); obtain ⟨ad290, e290, hx290_0, hx290_1⟩ := at_T30 (Kd.R_reads' HO_9.out).2.2 x11_3 p290 q290
              cases e290
              replace p290 := eq_true p290; replace q290 := eq_true q290; refine start_ (n := 22) (S := fun w' => w'.cell? ⟨gb275, 0, none⟩ = some (.int .i64 a0_0) ∧ w'.cell? ⟨gb275, 1, none⟩ = some (.int .i64 a0_1) ∧ w'.cell? ⟨gb275, 2, none⟩ = some (.int .i64 a0_2) ∧ w'.cell? ⟨gb275, 3, none⟩ = some (.int .i64 a0_3) ∧ w'.cell? (ad290.add ((x11_3).toNat * 2)) = some (.int .i64 ((rd_T30 y287 x11_3).f0)) ∧ w'.cell? ⟨(ad290.add ((x11_3).toNat * 2)).block, (ad290.add ((x11_3).toNat * 2)).off + 1, none⟩ = some (.int .i64 ((rd_T30 y287 x11_3).f1))) (ds := []) #[F, F, F, F, F, F, F, F, F, F, F, F, F, F, F, F, F, F, F, F, F, F] (by kernel_rfl) rfl rfl ⟨(blk_cell BK275.out 0).trans rfl, (blk_cell BK275.out 1).trans rfl, (blk_cell BK275.out 2).trans rfl, (blk_cell BK275.out 3).trans rfl, hx290_0, hx290_1⟩ (fun hHeld => ?_); refine with_tabW mapmakerref09_Relate.tab12 mapmakerref09_Relate.bits12 (fun HT_ HW_ => ?_); generalize wr.drew = w70 at HO_9 HO_10 BK275 BK276 HB hx290_0 hx290_1 hHeld ⊢
              refine pure_ (i := 0) (N := some 97) (v := ?_) (a' := ?_) #[T, F, F, F, F, F, F, F, F, F, F, F, F, F, F, F, F, F, F, F, F, F] rfl rfl (any_of HT_.out (by kernel_rfl)) (fun _ _ _ h => h) (Or.inl ⟨by rfl, ?_⟩) ?_ ?_; rotate_left
              ·intro w'; go_simp; with_reducible rfl
              rotate_left
              ·go_simp
               rfl
              refine pure_ (i := 1) (N := some 98) (v := ?_) (a' := ?_) #[T, T, F, F, F, F, F, F, F, F, F, F, F, F, F, F, F, F, F, F, F, F] rfl rfl (any_of HT_.out (by kernel_rfl)) (fun _ _ _ h => h) (Or.inl ⟨by rfl, ?_⟩) ?_ ?_; rotate_left
              ·intro w'; go_simp; with_reducible rfl
              rotate_left
              ·go_simp
               rfl
              refine pure_ (i := 2) (N := some 99) (v := ?_) (a' := ?_) #[T, T, T, F, F, F, F, F, F, F, F, F, F, F, F, F, F, F, F, F, F, F] rfl rfl (any_of HT_.out (by kernel_rfl)) (fun _ _ _ h => h) (Or.inl ⟨by rfl, ?_⟩) ?_ ?_; rotate_left
              ·intro w'; go_simp; with_reducible rfl
              rotate_left
              ·go_simp
               rfl
              refine pure_ (i := 4) (N := some 101) (v := ?_) (a' := ?_) #[T, T, T, F, T, F, F, F, F, F, F, F, F, F, F, F, F, F, F, F, F, F] rfl rfl (any_of HT_.out (by kernel_rfl)) (fun _ _ _ h => h) (Or.inl ⟨by rfl, ?_⟩) ?_ ?_; rotate_left
              ·intro w'; go_simp; with_reducible rfl
              rotate_left
              ·go_simp
               rfl
              refine pure_ (i := 6) (N := some 103) (v := ?_) (a' := ?_) #[T, T, T, F, T, F, T, F, F, F, F, F, F, F, F, F, F, F, F, F, F, F] rfl rfl (any_of HT_.out (by kernel_rfl)) (fun _ _ _ h => h) (Or.inl ⟨by rfl, ?_⟩) ?_ ?_; rotate_left
              ·intro w'; go_simp; with_reducible rfl
              rotate_left
              ·go_simp
               rfl
              refine take_ (i := 3) (N := some 100) (v := ?_) (a' := ?_) #[T, T, T, T, T, F, T, F, F, F, F, F, F, F, F, F, F, F, F, F, F, F] rfl rfl (take_ofW HT_.out HW_.out (by kernel_rfl)) (fun _ _ _ h => h) (Or.inl ⟨by rfl, ?_⟩) hHeld ?_ ?_; rotate_left
              ·rintro w' ⟨s0, s1, s2, s3, s4, s5⟩; go_simp; with_reducible rfl
              rotate_left
              ·go_simp
               rfl
              refine take_ (i := 5) (N := some 102) (v := ?_) (a' := ?_) #[T, T, T, T, T, T, T, F, F, F, F, F, F, F, F, F, F, F, F, F, F, F] rfl rfl (take_ofW HT_.out HW_.out (by kernel_rfl)) (fun _ _ _ h => h) (Or.inl ⟨by rfl, ?_⟩) hHeld ?_ ?_; rotate_left
              ·rintro w' ⟨s0, s1, s2, s3, s4, s5⟩; go_simp; with_reducible rfl
              rotate_left
              ·go_simp
               rfl
              refine take_ (i := 7) (N := some 104) (v := ?_) (a' := ?_) #[T, T, T, T, T, T, T, T, F, F, F, F, F, F, F, F, F, F, F, F, F, F] rfl rfl (take_ofW HT_.out HW_.out (by kernel_rfl)) (fun _ _ _ h => h) (Or.inl ⟨by rfl, ?_⟩) hHeld ?_ ?_; rotate_left
              ·rintro w' ⟨s0, s1, s2, s3, s4, s5⟩; go_simp; with_reducible rfl
              rotate_left
              ·go_simp
               rfl
              refine one_ (i := 8) (N := some 105) #[T, T, T, T, T, T, T, T, T, F, F, F, F, F, F, F, F, F, F, F, F, F] rfl rfl (one_of HT_.out (by kernel_rfl)) (by decide) (fun K hK => ?_); refine goes_ Try.func42 (by kernel_rfl) rfl #[.agg #[.int .i64 ((rd_T30 y287 x11_3).f0), .int .i64 ((rd_T30 y287 x11_3).f1)], .agg #[.int .i64 a0_0, .int .i64 a0_1], .agg #[.int .i64 a0_2, .int .i64 a0_3]] (by rfl) rfl rfl (by (try simp only [List.map_toArray, List.map_cons, List.map_nil]); first | done | rfl | (simp only [List.length_drop, List.length_take]; rfl)) ?_; with_reducible refine (mapmakerref09_On.calls ((rd_T30 y287 x11_3).f0) ((rd_T30 y287 x11_3).f1) a0_0 a0_1 a0_2 a0_3 false _ A63.out).mono ?_
              rintro e w72 ⟨rfl, hb⟩; have HS4_ := (hb.cell (World.block_lt_of_cell? _ _ (hHeld.2.2.2.2.1))).trans (hHeld.2.2.2.2.1); have HS5_ := (hb.cell (World.block_lt_of_cell? _ _ (hHeld.2.2.2.2.2))).trans (hHeld.2.2.2.2.2); refine ⟨_, rfl, ?_⟩; have n0_ := Aside0.mk (Kd.R_below (by (with_reducible repeat (first | apply Kd.R_alloc | apply Kd.R_drewN | apply Kd.R_drew)); exact HO_9.out) hb); have n1_ := Aside0.mk (Kd.R_below (by (with_reducible repeat (first | apply Kd.R_alloc | apply Kd.R_drewN | apply Kd.R_drew)); exact HO_10.out) hb); have n2_ := Aside0.mk (blk_below (bI BK275.out) hb); have n3_ := Aside0.mk (blk_below (bI BK276.out) hb); have n4_ := Aside0.mk (below_step (by repeat with_reducible first | exact HB.out | refine bC ?_ | apply pw_below_drewN | refine below_set ?_ GE275.out | refine below_set ?_ GE276.out) hb); clear HO_9 HO_10 BK275 BK276 HB; have HO_9 := n0_; have HO_10 := n1_; have BK275 := n2_; have BK276 := n3_; have HB := n4_; clear n0_ n1_ n2_ n3_ n4_; (try clear hb); (try clear hb2); (try clear hk); (try clear hi); refine hK.out _ _ ⟨(blk_cell BK275.out 0).trans rfl, (blk_cell BK275.out 1).trans rfl, (blk_cell BK275.out 2).trans rfl, (blk_cell BK275.out 3).trans rfl, HS4_, HS5_⟩ (fun hHeld => ?_); clear hK K; refine norm_ (a' := ?_) ?_ ?_; rotate_left
              ·show Act.put _ (some 105) _ = _; go_simp; rfl
              refine pure_ (i := 9) (N := some 106) (v := ?_) (a' := ?_) #[T, T, T, T, T, T, T, T, T, T, F, F, F, F, F, F, F, F, F, F, F, F] rfl rfl (any_of HT_.out (by kernel_rfl)) (fun _ _ _ h => h) (Or.inl ⟨by rfl, ?_⟩) ?_ ?_; rotate_left
              ·intro w'; go_simp; with_reducible rfl
              rotate_left
              ·go_simp
               rfl
              refine pure_ (i := 10) (N := some 107) (v := ?_) (a' := ?_) #[T, T, T, T, T, T, T, T, T, T, T, F, F, F, F, F, F, F, F, F, F, F] rfl rfl (any_of HT_.out (by kernel_rfl)) (fun _ _ _ h => h) (Or.inl ⟨by rfl, ?_⟩) ?_ ?_; rotate_left
              ·intro w'; go_simp; with_reducible rfl
              rotate_left
              ·go_simp
               rfl
              refine pure_ (i := 11) (N := some 108) (v := undef) (a' := ?_) #[T, T, T, T, T, T, T, T, T, T, T, T, F, F, F, F, F, F, F, F, F, F] rfl rfl (any_of HT_.out (by kernel_rfl)) (fun _ _ _ h => h) (Or.inr ⟨by rfl, rfl⟩) ?_ ?_; rotate_left
              ·go_simp
               rfl
              refine pure_ (i := 12) (N := some 109) (v := undef) (a' := ?_) #[T, T, T, T, T, T, T, T, T, T, T, T, T, F, F, F, F, F, F, F, F, F] rfl rfl (any_of HT_.out (by kernel_rfl)) (fun _ _ _ h => h) (Or.inr ⟨by rfl, rfl⟩) ?_ ?_; rotate_left
              ·go_simp
               rfl
              refine pure_ (i := 13) (N := some 110) (v := undef) (a' := ?_) #[T, T, T, T, T, T, T, T, T, T, T, T, T, T, F, F, F, F, F, F, F, F] rfl rfl (any_of HT_.out (by kernel_rfl)) (fun _ _ _ h => h) (Or.inr ⟨by rfl, rfl⟩) ?_ ?_; rotate_left
              ·go_simp
               rfl
              refine pure_ (i := 14) (N := some 111) (v := undef) (a' := ?_) #[T, T, T, T, T, T, T, T, T, T, T, T, T, T, T, F, F, F, F, F, F, F] rfl rfl (any_of HT_.out (by kernel_rfl)) (fun _ _ _ h => h) (Or.inr ⟨by rfl, rfl⟩) ?_ ?_; rotate_left
              ·go_simp
               rfl
              refine pure_ (i := 15) (N := some 112) (v := undef) (a' := ?_) #[T, T, T, T, T, T, T, T, T, T, T, T, T, T, T, T, F, F, F, F, F, F] rfl rfl (any_of HT_.out (by kernel_rfl)) (fun _ _ _ h => h) (Or.inr ⟨by rfl, rfl⟩) ?_ ?_; rotate_left
              ·go_simp
               rfl
              refine pure_ (i := 16) (N := some 113) (v := undef) (a' := ?_) #[T, T, T, T, T, T, T, T, T, T, T, T, T, T, T, T, T, F, F, F, F, F] rfl rfl (any_of HT_.out (by kernel_rfl)) (fun _ _ _ h => h) (Or.inr ⟨by rfl, rfl⟩) ?_ ?_; rotate_left
              ·go_simp
               rfl
              refine pure_ (i := 17) (N := some 114) (v := undef) (a' := ?_) #[T, T, T, T, T, T, T, T, T, T, T, T, T, T, T, T, T, T, F, F, F, F] rfl rfl (any_of HT_.out (by kernel_rfl)) (fun _ _ _ h => h) (Or.inr ⟨by rfl, rfl⟩) ?_ ?_; rotate_left
              ·go_simp
               rfl
              refine pure_ (i := 18) (N := some 115) (v := undef) (a' := ?_) #[T, T, T, T, T, T, T, T, T, T, T, T, T, T, T, T, T, T, T, F, F, F] rfl rfl (any_of HT_.out (by kernel_rfl)) (fun _ _ _ h => h) (Or.inr ⟨by rfl, rfl⟩) ?_ ?_; rotate_left
              ·go_simp
               rfl
              refine pure_ (i := 19) (N := some 116) (v := undef) (a' := ?_) #[T, T, T, T, T, T, T, T, T, T, T, T, T, T, T, T, T, T, T, T, F, F] rfl rfl (any_of HT_.out (by kernel_rfl)) (fun _ _ _ h => h) (Or.inr ⟨by rfl, rfl⟩) ?_ ?_; rotate_left
              ·go_simp
               rfl
              refine pure_ (i := 20) (N := some 117) (v := undef) (a' := ?_) #[T, T, T, T, T, T, T, T, T, T, T, T, T, T, T, T, T, T, T, T, T, F] rfl rfl (any_of HT_.out (by kernel_rfl)) (fun _ _ _ h => h) (Or.inr ⟨by rfl, rfl⟩) ?_ ?_; rotate_left
              ·go_simp
               rfl
              refine pure_ (i := 21) (N := some 118) (v := ?_) (a' := ?_) #[T, T, T, T, T, T, T, T, T, T, T, T, T, T, T, T, T, T, T, T, T, T] rfl rfl (any_of HT_.out (by kernel_rfl)) (fun _ _ _ h => h) (Or.inl ⟨by rfl, ?_⟩) ?_ ?_; rotate_left
              ·intro w'; go_simp; with_reducible rfl
              rotate_left
              ·go_simp
               rfl
              refine done_ (done_of HT_.out (by kernel_rfl)) ?_
              try go_wp2
              go_meet
              case rel => exact ⟨_, (true), (by first | rfl | (simp; done) | (simp [*]; done)), H', ⟨by have := HJ2.out; have := HJ44.out; have := HK3.out; first | omega | exact Nat.le_refl _⟩, ⟨by (with_reducible repeat (first | apply Kd.R_alloc | apply Kd.R_drewN | apply Kd.R_drew)); exact HO_9.out⟩, ⟨by (with_reducible repeat (first | apply Kd.R_alloc | apply Kd.R_drewN | apply Kd.R_drew)); exact HO_10.out⟩, ⟨by refine bI ?_; exact BK275.out⟩, ⟨by refine bI ?_; exact BK276.out⟩, ⟨by repeat with_reducible first | exact HB.out | refine bC ?_ | refine below_set ?_ GE275.out | refine below_set ?_ GE276.out⟩⟩
            ·rw [if_neg c62] at H
             exact absurd H (by simp)
           ·rw [if_neg c61] at H
            exact absurd H (by simp)
          case rest =>
           clear HC60
           try clear p2
           try clear q2
           try clear hx2
           try clear c4
           try clear c5
           try clear c6
           try clear p6
           try clear p29
           try clear q29
           try clear hx29
           try clear c42
           try clear c59
           try clear c59b0
           try clear c61
           try clear c61b0
           try clear c62
           try clear c62b0
           try clear c64
           try clear hcz33_3
           try clear hcz34_0
           try clear hcz34_1
           try clear hcz34_2
           try clear hcz34_3
           try clear hcz55_0
           try clear hcz55_1
           try clear hcz55_2
           try clear hcz55_3
           try clear hcz56_0
           try clear hcz56_1
           try clear hcz56_2
           try clear hcz56_3
           try clear hfz12_0
           try clear hfz12_1
           try clear hfz12_2
           try clear hfz12_3
           try clear hfz13_0
           try clear hfz13_1
           try clear hfz13_2
           try clear hfz13_3
           try clear hfz15_0
           try clear hfz15_1
           try clear hfz15_2
           try clear hfz15_3
           try clear hfz17_0
           try clear hfz17_1
           try clear hfz17_2
           try clear hfz17_3
           try clear hfz19_0
           try clear hfz19_1
           try clear hfz19_2
           try clear hfz19_3
           try clear hfz20_0
           try clear hfz20_1
           try clear hfz20_2
           try clear hfz20_3
           try clear hfz22_0
           try clear hfz22_1
           try clear hfz22_2
           try clear hfz22_3
           try clear hfz24_0
           try clear hfz24_1
           try clear hfz24_2
           try clear hfz24_3
           try clear hfz25_0
           try clear hfz25_1
           try clear hfz25_2
           try clear hfz25_3
           try clear hfz27_0
           try clear hfz27_1
           try clear hfz27_2
           try clear hfz27_3
           try clear hfz28_0
           try clear hfz28_1
           try clear hfz28_2
           try clear hfz28_3
           try clear hfz30_0
           try clear hfz30_1
           try clear hfz30_2
           try clear hfz30_3
           try clear hfz33_0
           try clear hfz33_1
           try clear hfz33_2
           try clear hfz33_3
           try clear hfz34_0
           try clear hfz34_1
           try clear hfz34_2
           try clear hfz34_3
           try clear hfz55_0
           try clear hfz55_1
           try clear hfz55_2
           try clear hfz55_3
           try clear hfz56_0
           try clear hfz56_1
           try clear hfz56_2
           try clear hfz56_3
           try clear hx290_0
           try clear hx290_1
           try clear hx292_0
           try clear hx292_1
           try clear p2
           try clear p290
           try clear p292
           try clear p6
           try clear q290
           try clear q292
           obtain ⟨kq, x118_59, rfl, HA, HJ59, HO_9, HO_10, BK275, BK276, HB⟩ := hcut
           cases kq with
           | zero => exact absurd HA.out (by simp [mapmakerref09_Relate.j3])
           | succ kj59 =>
            have H := HA.out; clear HA; simp only [mapmakerref09_Relate.j3] at H
            by_cases c73 : x118_59 = true
            ·subst c73; have H1 : (mapmakerref09_Relate.l0 kj59 y287 x10_3 (wrap64 (x11_3 + 1)) a0_0 a0_1 a0_2 a0_3 a1_0 a1_1 a1_2 a1_3) = some r := by rw [if_pos rfl] at H; exact H
             clear H; have H := H1; clear H1; have H' := Aside0.mk H; clear H
             go_wp2
             go_roundg kj59
             case measure => have := HJ2.out; have := HJ44.out; have := HK3.out; have := HJ59.out; omega
             case rel => exact ⟨(x10_3), (wrap64 (x11_3 + 1)), (by first | rfl | (simp; done) | (simp [*]; done)), H', ⟨by have := HJ2.out; have := HJ44.out; have := HK3.out; have := HJ59.out; omega⟩, ⟨by (with_reducible repeat (first | apply Kd.R_alloc | apply Kd.R_drewN | apply Kd.R_drew)); exact HO_9.out⟩, ⟨by (with_reducible repeat (first | apply Kd.R_alloc | apply Kd.R_drewN | apply Kd.R_drew)); exact HO_10.out⟩, ⟨by refine bI ?_; exact BK275.out⟩, ⟨by refine bI ?_; exact BK276.out⟩, ⟨by repeat with_reducible first | exact HB.out | refine bC ?_ | refine below_set ?_ GE275.out | refine below_set ?_ GE276.out⟩⟩
            ·replace c73 := Bool.eq_false_iff.mpr c73; subst c73; have H1 : (mapmakerref09_Relate.l1 kj59 y287 x10_3 x11_3 false 0 a0_0 a0_1 a0_2 a0_3 a1_0 a1_1 a1_2 a1_3) = some r := by rw [if_neg (show ¬ (false = true) by decide)] at H; exact H
             clear H; have H := H1; clear H1; have H' := Aside0.mk H; clear H
             go_wp2
             go_loopg [12, 13] kj59 (fun kq v12 v13 w' => ∃ (x12_5 : Bool) (x13_5 : Int), v12 = .bool x12_5 ∧ v13 = .int .i64 x13_5 ∧ Aside0 (mapmakerref09_Relate.l1 kq y287 x10_3 x11_3 x12_5 x13_5 a0_0 a0_1 a0_2 a0_3 a1_0 a1_1 a1_2 a1_3 = some r) ∧ Aside0 (kq ≤ kj59) ∧ Aside0 (Kd.R k30 30 w' w.heap.size (fun k_ => some k_ ≠ (u10 : Value).ownBlock) v288 y287) ∧ Aside0 (Kd.R k30 30 w' w.heap.size (fun k_ => some k_ ≠ (v288 : Value).ownBlock) u10 x10_3) ∧ Aside0 (w'.heap[gb275]? = some (.cells #[.int .i64 a0_0, .int .i64 a0_1, .int .i64 a0_2, .int .i64 a0_3] 45 (0, 0))) ∧ Aside0 (w'.heap[gb276]? = some (.cells #[.int .i64 a1_0, .int .i64 a1_1, .int .i64 a1_2, .int .i64 a1_3] 45 (0, 0))) ∧ Aside0 (Below w.heap.size w w'))
             case atStart => exact ⟨(false), (0), (by first | rfl | (simp; done) | (simp [*]; done)), (by first | rfl | (simp; done) | (simp [*]; done)), H', ⟨Nat.le_refl _⟩, ⟨by (with_reducible repeat (first | apply Kd.R_alloc | apply Kd.R_drewN | apply Kd.R_drew)); exact HO_9.out⟩, ⟨by (with_reducible repeat (first | apply Kd.R_alloc | apply Kd.R_drewN | apply Kd.R_drew)); exact HO_10.out⟩, ⟨by refine bI ?_; exact BK275.out⟩, ⟨by refine bI ?_; exact BK276.out⟩, ⟨by repeat with_reducible first | exact HB.out | refine bC ?_ | refine below_set ?_ GE275.out | refine below_set ?_ GE276.out⟩⟩
             case round =>
              clear H'
              try clear p2
              try clear q2
              try clear hx2
              try clear c4
              try clear c5
              try clear c6
              try clear p6
              try clear c7
              try clear p29
              try clear q29
              try clear hx29
              try clear c42
              try clear c59
              try clear c59b0
              try clear c61
              try clear c61b0
              try clear c62
              try clear c62b0
              try clear c64
              try clear p64
              try clear c73
              try clear hcz33_3
              try clear hcz34_0
              try clear hcz34_1
              try clear hcz34_2
              try clear hcz34_3
              try clear hcz55_0
              try clear hcz55_1
              try clear hcz55_2
              try clear hcz55_3
              try clear hcz56_0
              try clear hcz56_1
              try clear hcz56_2
              try clear hcz56_3
              try clear hfz12_0
              try clear hfz12_1
              try clear hfz12_2
              try clear hfz12_3
              try clear hfz13_0
              try clear hfz13_1
              try clear hfz13_2
              try clear hfz13_3
              try clear hfz15_0
              try clear hfz15_1
              try clear hfz15_2
              try clear hfz15_3
              try clear hfz17_0
              try clear hfz17_1
              try clear hfz17_2
              try clear hfz17_3
              try clear hfz19_0
              try clear hfz19_1
              try clear hfz19_2
              try clear hfz19_3
              try clear hfz20_0
              try clear hfz20_1
              try clear hfz20_2
              try clear hfz20_3
              try clear hfz22_0
              try clear hfz22_1
              try clear hfz22_2
              try clear hfz22_3
              try clear hfz24_0
              try clear hfz24_1
              try clear hfz24_2
              try clear hfz24_3
              try clear hfz25_0
              try clear hfz25_1
              try clear hfz25_2
              try clear hfz25_3
              try clear hfz27_0
              try clear hfz27_1
              try clear hfz27_2
              try clear hfz27_3
              try clear hfz28_0
              try clear hfz28_1
              try clear hfz28_2
              try clear hfz28_3
              try clear hfz30_0
              try clear hfz30_1
              try clear hfz30_2
              try clear hfz30_3
              try clear hfz33_0
              try clear hfz33_1
              try clear hfz33_2
              try clear hfz33_3
              try clear hfz34_0
              try clear hfz34_1
              try clear hfz34_2
              try clear hfz34_3
              try clear hfz55_0
              try clear hfz55_1
              try clear hfz55_2
              try clear hfz55_3
              try clear hfz56_0
              try clear hfz56_1
              try clear hfz56_2
              try clear hfz56_3
              try clear hx290_0
              try clear hx290_1
              try clear hx292_0
              try clear hx292_1
              try clear p2
              try clear p29
              try clear p290
              try clear p292
              try clear p6
              try clear q2
              try clear q29
              try clear q290
              try clear q292
              obtain ⟨x12_5, x13_5, rfl, rfl, HA, HK5, HO_9, HO_10, BK275, BK276, HB⟩ := hrel
              cases gk with
              | zero => exact absurd HA.out (by simp [mapmakerref09_Relate.l1])
              | succ k5 =>
               have H := HA.out; clear HA; simp only [mapmakerref09_Relate.l1] at H
               by_cases c74 : x13_5 < (x10_3.length : Int)
               ·rw [if_pos c74] at H
                have c74b0 : decide (x13_5 < (x10_3.length : Int)) = true := decide_eq_true c74; clear c74
                by_cases c75 : x12_5 = true
                ·subst c75; have H1 : (mapmakerref09_Relate.l1 k5 y287 x10_3 x11_3 true (wrap64 (x13_5 + 1)) a0_0 a0_1 a0_2 a0_3 a1_0 a1_1 a1_2 a1_3) = some r := by rw [if_pos rfl] at H; exact H
                 clear H; have H := H1; clear H1; have H' := Aside0.mk H; clear H; obtain ⟨Ao76, co76, eo76⟩ := Kd.R_slice HO_10.out; subst eo76
                 try go_wp2
                 have n0_ := Aside0.mk (Kd.R_drew HO_9.out); have n1_ := Aside0.mk (Kd.R_drew HO_10.out); have n2_ := Aside0.mk (blk_drew BK275.out); have n3_ := Aside0.mk (blk_drew BK276.out); have n4_ := Aside0.mk (below_drew1 HB.out); clear HO_9 HO_10 BK275 BK276 HB; have HO_9 := n0_; have HO_10 := n1_; have BK275 := n2_; have BK276 := n3_; have HB := n4_; clear n0_ n1_ n2_ n3_ n4_; refine start_ (n := 13) (S := fun w' => True) (ds := []) #[F, F, F, F, F, F, F, F, F, F, F, F, F] (by kernel_rfl) rfl rfl trivial (fun hHeld => ?_); refine with_tabW mapmakerref09_Relate.tab17 mapmakerref09_Relate.bits17 (fun HT_ HW_ => ?_); generalize wr.drew = w77 at HO_9 HO_10 BK275 BK276 HB hHeld ⊢
                 refine pure_ (i := 0) (N := some 125) (v := ?_) (a' := ?_) #[T, F, F, F, F, F, F, F, F, F, F, F, F] rfl rfl (any_of HT_.out (by kernel_rfl)) (fun _ _ _ h => h) (Or.inl ⟨by rfl, ?_⟩) ?_ ?_; rotate_left
                 ·intro w'; go_simp; with_reducible rfl
                 rotate_left
                 ·go_simp
                  rfl
                 refine pure_ (i := 1) (N := some 126) (v := ?_) (a' := ?_) #[T, T, F, F, F, F, F, F, F, F, F, F, F] rfl rfl (any_of HT_.out (by kernel_rfl)) (fun _ _ _ h => h) (Or.inl ⟨by rfl, ?_⟩) ?_ ?_; rotate_left
                 ·intro w'; go_simp; with_reducible rfl
                 rotate_left
                 ·go_simp
                  rfl
                 refine pure_ (i := 2) (N := some 127) (v := undef) (a' := ?_) #[T, T, T, F, F, F, F, F, F, F, F, F, F] rfl rfl (any_of HT_.out (by kernel_rfl)) (fun _ _ _ h => h) (Or.inr ⟨by rfl, rfl⟩) ?_ ?_; rotate_left
                 ·go_simp
                  rfl
                 refine pure_ (i := 3) (N := some 128) (v := undef) (a' := ?_) #[T, T, T, T, F, F, F, F, F, F, F, F, F] rfl rfl (any_of HT_.out (by kernel_rfl)) (fun _ _ _ h => h) (Or.inr ⟨by rfl, rfl⟩) ?_ ?_; rotate_left
                 ·go_simp
                  rfl
                 refine pure_ (i := 4) (N := some 129) (v := undef) (a' := ?_) #[T, T, T, T, T, F, F, F, F, F, F, F, F] rfl rfl (any_of HT_.out (by kernel_rfl)) (fun _ _ _ h => h) (Or.inr ⟨by rfl, rfl⟩) ?_ ?_; rotate_left
                 ·go_simp
                  rfl
                 refine pure_ (i := 5) (N := some 130) (v := undef) (a' := ?_) #[T, T, T, T, T, T, F, F, F, F, F, F, F] rfl rfl (any_of HT_.out (by kernel_rfl)) (fun _ _ _ h => h) (Or.inr ⟨by rfl, rfl⟩) ?_ ?_; rotate_left
                 ·go_simp
                  rfl
                 refine pure_ (i := 6) (N := some 131) (v := undef) (a' := ?_) #[T, T, T, T, T, T, T, F, F, F, F, F, F] rfl rfl (any_of HT_.out (by kernel_rfl)) (fun _ _ _ h => h) (Or.inr ⟨by rfl, rfl⟩) ?_ ?_; rotate_left
                 ·go_simp
                  rfl
                 refine pure_ (i := 7) (N := some 132) (v := undef) (a' := ?_) #[T, T, T, T, T, T, T, T, F, F, F, F, F] rfl rfl (any_of HT_.out (by kernel_rfl)) (fun _ _ _ h => h) (Or.inr ⟨by rfl, rfl⟩) ?_ ?_; rotate_left
                 ·go_simp
                  rfl
                 refine pure_ (i := 8) (N := some 133) (v := undef) (a' := ?_) #[T, T, T, T, T, T, T, T, T, F, F, F, F] rfl rfl (any_of HT_.out (by kernel_rfl)) (fun _ _ _ h => h) (Or.inr ⟨by rfl, rfl⟩) ?_ ?_; rotate_left
                 ·go_simp
                  rfl
                 refine pure_ (i := 9) (N := some 134) (v := undef) (a' := ?_) #[T, T, T, T, T, T, T, T, T, T, F, F, F] rfl rfl (any_of HT_.out (by kernel_rfl)) (fun _ _ _ h => h) (Or.inr ⟨by rfl, rfl⟩) ?_ ?_; rotate_left
                 ·go_simp
                  rfl
                 refine pure_ (i := 10) (N := some 135) (v := undef) (a' := ?_) #[T, T, T, T, T, T, T, T, T, T, T, F, F] rfl rfl (any_of HT_.out (by kernel_rfl)) (fun _ _ _ h => h) (Or.inr ⟨by rfl, rfl⟩) ?_ ?_; rotate_left
                 ·go_simp
                  rfl
                 refine pure_ (i := 11) (N := some 136) (v := ?_) (a' := ?_) #[T, T, T, T, T, T, T, T, T, T, T, T, F] rfl rfl (any_of HT_.out (by kernel_rfl)) (fun _ _ _ h => h) (Or.inl ⟨by rfl, ?_⟩) ?_ ?_; rotate_left
                 ·intro w'; go_simp; with_reducible rfl
                 rotate_left
                 ·go_simp
                  rfl
                 refine pure_ (i := 12) (N := some 12) (v := ?_) (a' := ?_) #[T, T, T, T, T, T, T, T, T, T, T, T, T] rfl rfl (any_of HT_.out (by kernel_rfl)) (fun _ _ _ h => h) (Or.inl ⟨by rfl, ?_⟩) ?_ ?_; rotate_left
                 ·intro w'; go_simp; with_reducible rfl
                 rotate_left
                 ·go_simp
                  rfl
                 refine done_ (done_of HT_.out (by kernel_rfl)) ?_
                 try go_wp2
                 go_roundg k5
                 case measure => have := HJ2.out; have := HJ44.out; have := HK3.out; have := HJ59.out; have := HK5.out; omega
                 case rel => exact ⟨(true), (wrap64 (x13_5 + 1)), (by first | rfl | (simp; done) | (simp [*]; done)), (by first | rfl | (simp; done) | (simp [*]; done)), H', ⟨by have := HJ2.out; have := HJ44.out; have := HK3.out; have := HJ59.out; have := HK5.out; omega⟩, ⟨by (with_reducible repeat (first | apply Kd.R_alloc | apply Kd.R_drewN | apply Kd.R_drew)); exact HO_9.out⟩, ⟨by (with_reducible repeat (first | apply Kd.R_alloc | apply Kd.R_drewN | apply Kd.R_drew)); exact HO_10.out⟩, ⟨by refine bI ?_; exact BK275.out⟩, ⟨by refine bI ?_; exact BK276.out⟩, ⟨by repeat with_reducible first | exact HB.out | refine bC ?_ | refine below_set ?_ GE275.out | refine below_set ?_ GE276.out⟩⟩
                ·replace c75 := Bool.eq_false_iff.mpr c75; subst c75; have H1 : (if 0 ≤ x13_5 then (if 0 ≤ x11_3 then (if x11_3 < (y287.length : Int) then (mapmakerref09_Relate.l1 k5 y287 x10_3 x11_3 (((rd_T30 x10_3 x13_5).f0) == ((rd_T30 y287 x11_3).f0) && (((rd_T30 x10_3 x13_5).f1) == ((rd_T30 y287 x11_3).f1))) (wrap64 (x13_5 + 1)) a0_0 a0_1 a0_2 a0_3 a1_0 a1_1 a1_2 a1_3) else (none)) else (none)) else (none)) = some r := by rw [if_neg (show ¬ (false = true) by decide)] at H; exact H
                 clear H; have H := H1; clear H1
                 by_cases c78 : 0 ≤ x13_5
                 ·rw [if_pos c78] at H
                  have c78b0 : decide (0 ≤ x13_5) = true := decide_eq_true c78; clear c78
                  by_cases c79 : 0 ≤ x11_3
                  ·rw [if_pos c79] at H
                   have c79b0 : decide (0 ≤ x11_3) = true := decide_eq_true c79; clear c79
                   by_cases c80 : x11_3 < (y287.length : Int)
                   ·rw [if_pos c80] at H
                    have c80b0 : decide (x11_3 < (y287.length : Int)) = true := decide_eq_true c80; clear c80; have H' := Aside0.mk H; clear H; obtain ⟨Ao81, co81, eo81⟩ := Kd.R_slice HO_10.out; subst eo81
                    try go_wp2
                    have n0_ := Aside0.mk (Kd.R_drew HO_9.out); have n1_ := Aside0.mk (Kd.R_drew HO_10.out); have n2_ := Aside0.mk (blk_drew BK275.out); have n3_ := Aside0.mk (blk_drew BK276.out); have n4_ := Aside0.mk (below_drew1 HB.out); clear HO_9 HO_10 BK275 BK276 HB; have HO_9 := n0_; have HO_10 := n1_; have BK275 := n2_; have BK276 := n3_; have HB := n4_; clear n0_ n1_ n2_ n3_ n4_; have p294 : 0 ≤ (x13_5 : Int) := of_decide_eq_true (by first | (with_reducible assumption) | assumption); have q294 : x13_5 < (x10_3.length : Int) := of_decide_eq_true (by first | (with_reducible assumption) | assumption); obtain ⟨ad294, e294, hx294_0, hx294_1⟩ := at_T30 (Kd.R_reads' HO_10.out).2.2 x13_5 p294 q294
                    cases e294
                    replace p294 := eq_true p294; replace q294 := eq_true q294; obtain ⟨Ao83, co83, eo83⟩ := Kd.R_slice HO_9.out; (first | subst eo83 | (injection eo83 with f1_ f2_ f3_; have f4_ := f1_.symm; have f5_ := f3_.symm; clear f1_ f2_ f3_; subst f4_; subst f5_)); have p295 : 0 ≤ (x11_3 : Int) := of_decide_eq_true (by first | (with_reducible assumption) | assumption); have q295 : x11_3 < (y287.length : Int) := of_decide_eq_true (by first | (with_reducible assumption) | assumption); obtain ⟨ad295, e295, hx295_0, hx295_1⟩ := at_T30 (Kd.R_reads' HO_9.out).2.2 x11_3 p295 q295
                    cases e295
                    replace p295 := eq_true p295; replace q295 := eq_true q295; refine start_ (n := 13) (S := fun w' => w'.cell? (ad294.add ((x13_5).toNat * 2)) = some (.int .i64 ((rd_T30 x10_3 x13_5).f0)) ∧ w'.cell? ⟨(ad294.add ((x13_5).toNat * 2)).block, (ad294.add ((x13_5).toNat * 2)).off + 1, none⟩ = some (.int .i64 ((rd_T30 x10_3 x13_5).f1)) ∧ w'.cell? (ad295.add ((x11_3).toNat * 2)) = some (.int .i64 ((rd_T30 y287 x11_3).f0)) ∧ w'.cell? ⟨(ad295.add ((x11_3).toNat * 2)).block, (ad295.add ((x11_3).toNat * 2)).off + 1, none⟩ = some (.int .i64 ((rd_T30 y287 x11_3).f1))) (ds := []) #[F, F, F, F, F, F, F, F, F, F, F, F, F] (by kernel_rfl) rfl rfl ⟨hx294_0, hx294_1, hx295_0, hx295_1⟩ (fun hHeld => ?_); refine with_tabW mapmakerref09_Relate.tab17 mapmakerref09_Relate.bits17 (fun HT_ HW_ => ?_); generalize wr.drew = w82 at HO_9 HO_10 BK275 BK276 HB hx294_0 hx294_1 hx295_0 hx295_1 hHeld ⊢
                    refine pure_ (i := 0) (N := some 125) (v := ?_) (a' := ?_) #[T, F, F, F, F, F, F, F, F, F, F, F, F] rfl rfl (any_of HT_.out (by kernel_rfl)) (fun _ _ _ h => h) (Or.inl ⟨by rfl, ?_⟩) ?_ ?_; rotate_left
                    ·intro w'; go_simp; with_reducible rfl
                    rotate_left
                    ·go_simp
                     rfl
                    refine pure_ (i := 1) (N := some 126) (v := ?_) (a' := ?_) #[T, T, F, F, F, F, F, F, F, F, F, F, F] rfl rfl (any_of HT_.out (by kernel_rfl)) (fun _ _ _ h => h) (Or.inl ⟨by rfl, ?_⟩) ?_ ?_; rotate_left
                    ·intro w'; go_simp; with_reducible rfl
                    rotate_left
                    ·go_simp
                     rfl
                    refine pure_ (i := 2) (N := some 127) (v := ?_) (a' := ?_) #[T, T, T, F, F, F, F, F, F, F, F, F, F] rfl rfl (any_of HT_.out (by kernel_rfl)) (fun _ _ _ h => h) (Or.inl ⟨by rfl, ?_⟩) ?_ ?_; rotate_left
                    ·intro w'; go_simp; with_reducible rfl
                    rotate_left
                    ·go_simp
                     rfl
                    refine pure_ (i := 3) (N := some 128) (v := ?_) (a' := ?_) #[T, T, T, T, F, F, F, F, F, F, F, F, F] rfl rfl (any_of HT_.out (by kernel_rfl)) (fun _ _ _ h => h) (Or.inl ⟨by rfl, ?_⟩) ?_ ?_; rotate_left
                    ·intro w'; go_simp; with_reducible rfl
                    rotate_left
                    ·go_simp
                     rfl
                    refine pure_ (i := 4) (N := some 129) (v := ?_) (a' := ?_) #[T, T, T, T, T, F, F, F, F, F, F, F, F] rfl rfl (any_of HT_.out (by kernel_rfl)) (fun _ _ _ h => h) (Or.inl ⟨by rfl, ?_⟩) ?_ ?_; rotate_left
                    ·intro w'; go_simp; with_reducible rfl
                    rotate_left
                    ·go_simp
                     rfl
                    refine pure_ (i := 6) (N := some 131) (v := ?_) (a' := ?_) #[T, T, T, T, T, F, T, F, F, F, F, F, F] rfl rfl (any_of HT_.out (by kernel_rfl)) (fun _ _ _ h => h) (Or.inl ⟨by rfl, ?_⟩) ?_ ?_; rotate_left
                    ·intro w'; go_simp; with_reducible rfl
                    rotate_left
                    ·go_simp
                     rfl
                    refine pure_ (i := 7) (N := some 132) (v := ?_) (a' := ?_) #[T, T, T, T, T, F, T, T, F, F, F, F, F] rfl rfl (any_of HT_.out (by kernel_rfl)) (fun _ _ _ h => h) (Or.inl ⟨by rfl, ?_⟩) ?_ ?_; rotate_left
                    ·intro w'; go_simp; with_reducible rfl
                    rotate_left
                    ·go_simp
                     rfl
                    refine pure_ (i := 8) (N := some 133) (v := ?_) (a' := ?_) #[T, T, T, T, T, F, T, T, T, F, F, F, F] rfl rfl (any_of HT_.out (by kernel_rfl)) (fun _ _ _ h => h) (Or.inl ⟨by rfl, ?_⟩) ?_ ?_; rotate_left
                    ·intro w'; go_simp; with_reducible rfl
                    rotate_left
                    ·go_simp
                     rfl
                    refine take_ (i := 5) (N := some 130) (v := ?_) (a' := ?_) #[T, T, T, T, T, T, T, T, T, F, F, F, F] rfl rfl (take_ofW HT_.out HW_.out (by kernel_rfl)) (fun _ _ _ h => h) (Or.inl ⟨by rfl, ?_⟩) hHeld ?_ ?_; rotate_left
                    ·rintro w' ⟨s0, s1, s2, s3⟩; go_simp; with_reducible rfl
                    rotate_left
                    ·go_simp
                     rfl
                    refine take_ (i := 9) (N := some 134) (v := ?_) (a' := ?_) #[T, T, T, T, T, T, T, T, T, T, F, F, F] rfl rfl (take_ofW HT_.out HW_.out (by kernel_rfl)) (fun _ _ _ h => h) (Or.inl ⟨by rfl, ?_⟩) hHeld ?_ ?_; rotate_left
                    ·rintro w' ⟨s0, s1, s2, s3⟩; go_simp; with_reducible rfl
                    rotate_left
                    ·go_simp
                     rfl
                    refine pure_ (i := 10) (N := some 135) (v := ?_) (a' := ?_) #[T, T, T, T, T, T, T, T, T, T, T, F, F] rfl rfl (any_of HT_.out (by kernel_rfl)) (fun _ _ _ h => h) (Or.inl ⟨by rfl, ?_⟩) ?_ ?_; rotate_left
                    ·intro w'; go_simp; with_reducible rfl
                    rotate_left
                    ·go_simp
                     rfl
                    refine pure_ (i := 11) (N := some 136) (v := ?_) (a' := ?_) #[T, T, T, T, T, T, T, T, T, T, T, T, F] rfl rfl (any_of HT_.out (by kernel_rfl)) (fun _ _ _ h => h) (Or.inl ⟨by rfl, ?_⟩) ?_ ?_; rotate_left
                    ·intro w'; go_simp; with_reducible rfl
                    rotate_left
                    ·go_simp
                     rfl
                    refine pure_ (i := 12) (N := some 12) (v := ?_) (a' := ?_) #[T, T, T, T, T, T, T, T, T, T, T, T, T] rfl rfl (any_of HT_.out (by kernel_rfl)) (fun _ _ _ h => h) (Or.inl ⟨by rfl, ?_⟩) ?_ ?_; rotate_left
                    ·intro w'; go_simp; with_reducible rfl
                    rotate_left
                    ·go_simp
                     rfl
                    refine done_ (done_of HT_.out (by kernel_rfl)) ?_
                    try go_wp2
                    go_roundg k5
                    case measure => have := HJ2.out; have := HJ44.out; have := HK3.out; have := HJ59.out; have := HK5.out; omega
                    case rel => exact ⟨((((rd_T30 x10_3 x13_5).f0) == ((rd_T30 y287 x11_3).f0) && (((rd_T30 x10_3 x13_5).f1) == ((rd_T30 y287 x11_3).f1)))), (wrap64 (x13_5 + 1)), (by first | rfl | (simp; done) | (simp [*]; done)), (by first | rfl | (simp; done) | (simp [*]; done)), H', ⟨by have := HJ2.out; have := HJ44.out; have := HK3.out; have := HJ59.out; have := HK5.out; omega⟩, ⟨by (with_reducible repeat (first | apply Kd.R_alloc | apply Kd.R_drewN | apply Kd.R_drew)); exact HO_9.out⟩, ⟨by (with_reducible repeat (first | apply Kd.R_alloc | apply Kd.R_drewN | apply Kd.R_drew)); exact HO_10.out⟩, ⟨by refine bI ?_; exact BK275.out⟩, ⟨by refine bI ?_; exact BK276.out⟩, ⟨by repeat with_reducible first | exact HB.out | refine bC ?_ | refine below_set ?_ GE275.out | refine below_set ?_ GE276.out⟩⟩
                   ·rw [if_neg c80] at H
                    exact absurd H (by simp)
                  ·rw [if_neg c79] at H
                   exact absurd H (by simp)
                 ·rw [if_neg c78] at H
                  exact absurd H (by simp)
               ·rw [if_neg c74] at H
                have c74b0 : decide (x13_5 < (x10_3.length : Int)) = false := decide_eq_false c74; clear c74
                by_cases c84 : x12_5 = true
                ·subst c84; have H1 : (mapmakerref09_Relate.l0 k5 y287 x10_3 (wrap64 (x11_3 + 1)) a0_0 a0_1 a0_2 a0_3 a1_0 a1_1 a1_2 a1_3) = some r := by rw [if_pos rfl] at H; exact H
                 clear H; have H := H1; clear H1; have H' := Aside0.mk H; clear H; obtain ⟨Ao85, co85, eo85⟩ := Kd.R_slice HO_10.out; subst eo85
                 go_wp2
                 go_roundg k5
                 case measure => have := HJ2.out; have := HJ44.out; have := HK3.out; have := HJ59.out; have := HK5.out; omega
                 case rel => exact ⟨(x10_3), (wrap64 (x11_3 + 1)), (by first | rfl | (simp; done) | (simp [*]; done)), H', ⟨by have := HJ2.out; have := HJ44.out; have := HK3.out; have := HJ59.out; have := HK5.out; omega⟩, ⟨by (with_reducible repeat (first | apply Kd.R_alloc | apply Kd.R_drewN | apply Kd.R_drew)); exact HO_9.out⟩, ⟨by (with_reducible repeat (first | apply Kd.R_alloc | apply Kd.R_drewN | apply Kd.R_drew)); exact HO_10.out⟩, ⟨by refine bI ?_; exact BK275.out⟩, ⟨by refine bI ?_; exact BK276.out⟩, ⟨by repeat with_reducible first | exact HB.out | refine bC ?_ | refine below_set ?_ GE275.out | refine below_set ?_ GE276.out⟩⟩
                ·replace c84 := Bool.eq_false_iff.mpr c84; subst c84; have H1 : (if 0 ≤ x11_3 then (if x11_3 < (y287.length : Int) then (if x10_3.length < 8796093022208 then (mapmakerref09_Relate.l0 k5 y287 (x10_3 ++ [(⟨(rd_T30 y287 x11_3).f0, (rd_T30 y287 x11_3).f1⟩ : S30)]) (wrap64 (x11_3 + 1)) a0_0 a0_1 a0_2 a0_3 a1_0 a1_1 a1_2 a1_3) else (none)) else (none)) else (none)) = some r := by rw [if_neg (show ¬ (false = true) by decide)] at H; exact H
                 clear H; have H := H1; clear H1
                 by_cases c86 : 0 ≤ x11_3
                 ·rw [if_pos c86] at H
                  have c86b0 : decide (0 ≤ x11_3) = true := decide_eq_true c86; clear c86
                  by_cases c87 : x11_3 < (y287.length : Int)
                  ·rw [if_pos c87] at H
                   have c87b0 : decide (x11_3 < (y287.length : Int)) = true := decide_eq_true c87; clear c87
                   by_cases c88 : x10_3.length < 8796093022208
                   ·rw [if_pos c88] at H
                    have LMc88 := Aside0.mk c88; clear c88; obtain ⟨y297, hy297⟩ : ∃ y_ : List (S30), y_ = (x10_3 ++ [(⟨(rd_T30 y287 x11_3).f0, (rd_T30 y287 x11_3).f1⟩ : S30)]) := ⟨_, rfl⟩; replace H : (mapmakerref09_Relate.l0 k5 y287 y297 (wrap64 (x11_3 + 1)) a0_0 a0_1 a0_2 a0_3 a1_0 a1_1 a1_2 a1_3) = some r := by first | (rw [hy297]; with_reducible exact H) | (have H2_ := (Option.bind_some _ _).symm.trans H; rw [hy297]; with_reducible exact H2_) | (have H2_ := (Option.bind_some _ _).symm.trans H; with_reducible exact H2_) | with_reducible exact H | (rw [hy297]; exact H) | exact H
                    have Ny297 := Aside0.mk hy297; clear hy297; have H' := Aside0.mk H; clear H; obtain ⟨Ao89, co89, eo89⟩ := Kd.R_slice HO_10.out; subst eo89; obtain ⟨Ao90, co90, eo90⟩ := Kd.R_slice HO_9.out; subst eo90; have p296 : 0 ≤ (x11_3 : Int) := of_decide_eq_true (by first | (with_reducible assumption) | assumption); have q296 : x11_3 < (y287.length : Int) := of_decide_eq_true (by first | (with_reducible assumption) | assumption); obtain ⟨ad296, e296, hx296_0, hx296_1⟩ := at_T30 (Kd.R_reads' HO_9.out).2.2 x11_3 p296 q296
                    cases e296
                    replace p296 := eq_true p296; replace q296 := eq_true q296
                    go_wp2_with (first | ((with_reducible refine gate_builtin (b := .append) (xs := #[.tmp 139, .tmp 144]) rfl ?_); at_builtin; refine Kd.R_append k30 (w0 := w) w.heap.size rfl (.tmp 139) (.tmp 144) 22 30 (.agg #[(.int .i64 0), (.int .i64 0)]) 16 rfl Try.underlying22 info30 rfl (by decide) (by omega) (.slice Ao89 x10_3.length co89) x10_3 (⟨(rd_T30 y287 x11_3).f0, (rd_T30 y287 x11_3).f1⟩ : S30) [.int .i64 ((rd_T30 y287 x11_3).f0), .int .i64 ((rd_T30 y287 x11_3).f1)] (fun k_ => some k_ ≠ (.slice (some ad296) y287.length co90 : Value).ownBlock) (fun _ => False) rfl rfl ?aP (fun _ hk => hk.elim) ?aF ?aO ?aB ?aS ?aL ?_; (case aP => exact k30_mkM _ _ _ (⟨(rd_T30 y287 x11_3).f0, (rd_T30 y287 x11_3).f1⟩ : S30)); (case aB => exact (by repeat with_reducible first | exact HB.out | refine bC ?_ | refine below_set ?_ GE275.out | refine below_set ?_ GE276.out)); (case aF => exact (fun k_ hk => Kd.fresh' (Kd.R_lt (by (with_reducible repeat (first | apply Kd.R_alloc | apply Kd.R_drewN | apply Kd.R_drew)); exact HO_9.out)) k_ hk)); (case aO => exact (by (with_reducible repeat (first | apply Kd.R_alloc | apply Kd.R_drewN | apply Kd.R_drew)); exact HO_10.out)); (case aS => exact (below_size (by repeat with_reducible first | exact HB.out | refine bC ?_ | refine below_set ?_ GE275.out | refine below_set ?_ GE276.out))); (case aL => have := LMc88.out; omega); intro v298 w91 ho hb hg hat; rw [← Ny297.out] at ho; have n0_ := Aside0.mk (Kd.R_after (ok := (fun _ => True)) (by (with_reducible repeat (first | apply Kd.R_alloc | apply Kd.R_drewN | apply Kd.R_drew)); exact Kd.R_mono HO_9.out (fun _ hk => ⟨trivial, hk⟩)) hg hat); have n1_ := Aside0.mk (blk_grown (bI BK275.out) hg (Kd.R_ne HO_10.out BK275.out (by decide))); have n2_ := Aside0.mk (blk_grown (bI BK276.out) hg (Kd.R_ne HO_10.out BK276.out (by decide))); have n3_ := Aside0.mk (hb); have n4_ := Aside0.mk (ho); clear HO_9 BK275 BK276 HB HO_10; have HO_9 := n0_; have BK275 := n1_; have BK276 := n2_; have HB := n3_; have HO299 := n4_; clear n0_ n1_ n2_ n3_ n4_ ho hb hg hat))
                    go_roundg k5
                    case measure => have := HJ2.out; have := HJ44.out; have := HK3.out; have := HJ59.out; have := HK5.out; omega
                    case rel => exact ⟨(y297), (wrap64 (x11_3 + 1)), (by first | rfl | (simp; done) | (simp [*]; done)), H', ⟨by have := HJ2.out; have := HJ44.out; have := HK3.out; have := HJ59.out; have := HK5.out; omega⟩, ⟨by (with_reducible repeat (first | apply Kd.R_alloc | apply Kd.R_drewN | apply Kd.R_drew)); exact Kd.R_mono HO_9.out (fun _ hk => hk.2)⟩, ⟨by (with_reducible repeat (first | apply Kd.R_alloc | apply Kd.R_drewN | apply Kd.R_drew)); exact HO299.out⟩, ⟨by refine bI ?_; exact BK275.out⟩, ⟨by refine bI ?_; exact BK276.out⟩, ⟨by repeat with_reducible first | exact HB.out | refine bC ?_ | refine below_set ?_ GE275.out | refine below_set ?_ GE276.out⟩⟩
                   ·rw [if_neg c88] at H
                    exact absurd H (by simp)
                  ·rw [if_neg c87] at H
                   exact absurd H (by simp)
                 ·rw [if_neg c86] at H
                  exact absurd H (by simp)
         ·rw [if_neg c59] at H
          have c59b0 : decide (x11_3 < 4) = false := decide_eq_false c59; clear c59
          by_cases c92 : (x10_3.length : Int) > 1
          ·rw [if_pos c92] at H
           have c92b0 : decide (1 < (x10_3.length : Int)) = true := decide_eq_true c92; have c92b1 : decide (1 < x10_3.length) = true := decide_eq_true (by omega); clear c92; obtain rfl := Option.some.inj H; obtain ⟨Ao93, co93, eo93⟩ := Kd.R_slice HO_10.out; subst eo93
           go_wp2
           go_ret
           exact ⟨by first | rfl | (simp [errW_none, errW_some] <;> rfl) | (simp [*, errW_none, errW_some] <;> rfl), by repeat with_reducible first | exact HB.out | refine bC ?_ | refine below_set ?_ GE275.out | refine below_set ?_ GE276.out⟩
          ·rw [if_neg c92] at H
           have c92b0 : decide (1 < (x10_3.length : Int)) = false := decide_eq_false c92; have c92b1 : decide (1 < x10_3.length) = false := decide_eq_false (by omega); clear c92
           by_cases c94 : (x10_3.length : Int) = 1
           ·rw [if_pos c94] at H
            have c94b0 : ((x10_3.length : Int) == 1) = true := beq_iff_eq.mpr c94; have c94b1 : ((x10_3.length : Int) != 1) = false := bne_eq_false_iff_eq.mpr c94; clear c94; obtain rfl := Option.some.inj H; obtain ⟨Ao95, co95, eo95⟩ := Kd.R_slice HO_10.out; subst eo95
            go_wp2
            go_ret
            exact ⟨by first | rfl | (simp [errW_none, errW_some] <;> rfl) | (simp [*, errW_none, errW_some] <;> rfl), by repeat with_reducible first | exact HB.out | refine bC ?_ | refine below_set ?_ GE275.out | refine below_set ?_ GE276.out⟩
           ·rw [if_neg c94] at H
            have c94b0 : ((x10_3.length : Int) == 1) = false := beq_eq_false_iff_ne.mpr c94; have c94b1 : ((x10_3.length : Int) != 1) = true := bne_iff_ne.mpr c94; obtain rfl := Option.some.inj H; obtain ⟨Ao96, co96, eo96⟩ := Kd.R_slice HO_10.out; subst eo96
            go_wp2
            go_ret
            exact ⟨by first | rfl | (simp [errW_none, errW_some] <;> rfl) | (simp [*, errW_none, errW_some] <;> rfl), by repeat with_reducible first | exact HB.out | refine bC ?_ | refine below_set ?_ GE275.out | refine below_set ?_ GE276.out⟩

end Go.Proofs.Ytggafoldccikdaa.PAll
