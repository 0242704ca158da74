import Derived.Test.YtggafoldccikdaaPAllx0
import Derived.Test.YtggafoldccikdaaPAllx1
import Derived.Test.YtggafoldccikdaaPAllx15
namespace Go.Proofs.Ytggafoldccikdaa.PAll
open Go.RowKit Go.Proofs.YtggafoldccikdaaW.PrintWords Go.Proofs.YtggafoldccikdaaW.PrintLast Go.Proofs.YtggafoldccikdaaW.PrintMore
attribute [local go_sem] max2_int min2_int max_two min_two max_three min_three max_four min_four
set_option linter.unusedVariables false
set_option linter.unusedSimpArgs false
attribute [local irreducible] Calls

attribute [local go_sem high] eqA30
/-! ### poly_Simple: function 12 -/
mutual
def poly_Simple.j0 : Nat → List (S30) → Int → Bool → Option (Bool)
 | 0, _, _, _ => none
 | k + 1, x0, x3, x19 => if x19 = true then (some false) else (poly_Simple.l0 k x0 x3 x3 0)
def poly_Simple.l0 : Nat → List (S30) → Int → Int → Int → Option (Bool)
 | 0, _, _, _, _ => none
 | k + 1, x0, x3, x20, x21 => if x21 < x20 then (if 0 ≤ x21 then (if x21 < (x0.length : Int) then (if x3 = 0 then (none) else (if 0 ≤ (Int.tmod (wrap64 (x21 + 1)) x3) then (if (Int.tmod (wrap64 (x21 + 1)) x3) < (x0.length : Int) then (poly_Simple.l1 k x0 x3 x21 x20 x21 x21 0 ((rd_T30 x0 x21).f0) ((rd_T30 x0 x21).f1) ((rd_T30 x0 (Int.tmod (wrap64 (x21 + 1)) x3)).f0) ((rd_T30 x0 (Int.tmod (wrap64 (x21 + 1)) x3)).f1)) else (none)) else (none))) else (none)) else (none)) else (some true)
def poly_Simple.l1 : Nat → List (S30) → Int → Int → Int → Int → Int → Int → Int → Int → Int → Int → Option (Bool)
 | 0, _, _, _, _, _, _, _, _, _, _, _ => none
 | k + 1, x0, x3, x4, x20, x21, x35, x36, x169000, x169001, x170000, x170001 => if x36 < x35 then (if 0 ≤ x36 then (if x36 < (x0.length : Int) then (if x3 = 0 then (none) else (if 0 ≤ (Int.tmod (wrap64 (x36 + 1)) x3) then (if (Int.tmod (wrap64 (x36 + 1)) x3) < (x0.length : Int) then (if (x169000 == ((rd_T30 x0 x36).f0) && (x169001 == ((rd_T30 x0 x36).f1))) = true then (some false) else (if (wrap64 (x36 + 1)) = x4 then (poly_Simple.j3 k x0 x3 x4 0 x20 x21 x35 x36 true x169000 x169001 x170000 x170001 ((rd_T30 x0 x36).f0) ((rd_T30 x0 x36).f1) ((rd_T30 x0 (Int.tmod (wrap64 (x36 + 1)) x3)).f0) ((rd_T30 x0 (Int.tmod (wrap64 (x36 + 1)) x3)).f1)) else (if (wrap64 (x4 + 1)) = x3 then (poly_Simple.j3 k x0 x3 x4 0 x20 x21 x35 x36 (x36 == 0) x169000 x169001 x170000 x170001 ((rd_T30 x0 x36).f0) ((rd_T30 x0 x36).f1) ((rd_T30 x0 (Int.tmod (wrap64 (x36 + 1)) x3)).f0) ((rd_T30 x0 (Int.tmod (wrap64 (x36 + 1)) x3)).f1)) else (poly_Simple.j3 k x0 x3 x4 0 x20 x21 x35 x36 false x169000 x169001 x170000 x170001 ((rd_T30 x0 x36).f0) ((rd_T30 x0 x36).f1) ((rd_T30 x0 (Int.tmod (wrap64 (x36 + 1)) x3)).f0) ((rd_T30 x0 (Int.tmod (wrap64 (x36 + 1)) x3)).f1))))) else (none)) else (none))) else (none)) else (none)) else (poly_Simple.l0 k x0 x3 x20 (wrap64 (x21 + 1)))
def poly_Simple.j3 : Nat → List (S30) → Int → Int → Int → Int → Int → Int → Int → Bool → Int → Int → Int → Int → Int → Int → Int → Int → Option (Bool)
 | 0, _, _, _, _, _, _, _, _, _, _, _, _, _, _, _, _, _ => none
 | k + 1, x0, x3, x4, x10, x20, x21, x35, x36, x66, x169000, x169001, x170000, x170001, x173000, x173001, x174000, x174001 => if x66 = true then (if (x169000 == x170000 && (x169001 == x170001)) = true then (some false) else (if (x173000 == x174000 && (x173001 == x174001)) = true then (some false) else ((seg_Relate.f k x169000 x169001 x170000 x170001 x173000 x173001 x174000 x174001).bind fun t174 => (if t174 = 1 then (poly_Simple.l1 k x0 x3 x4 x20 x21 x35 (wrap64 (x36 + 1)) x169000 x169001 x170000 x170001) else (some false))))) else (if (x169000 == x170000 && (x169001 == x170001)) = true then (some false) else (if (x173000 == x174000 && (x173001 == x174001)) = true then (some false) else ((seg_Relate.f k x169000 x169001 x170000 x170001 x173000 x173001 x174000 x174001).bind fun t175 => (if t175 = x10 then (poly_Simple.l1 k x0 x3 x4 x20 x21 x35 (wrap64 (x36 + 1)) x169000 x169001 x170000 x170001) else (some false)))))
end
def poly_Simple.f (k : Nat) (l0 : List (S30)) : Option (Bool) := if (l0.length : Int) < 3 then (poly_Simple.j0 k l0 (l0.length : Int) true) else ((poly_valid.f l0).bind fun t165 => (poly_Simple.j0 k l0 (l0.length : Int) (!t165)))
theorem poly_Simple.mono_l : ∀ k, (∀ y0 y1 y2, LeO (poly_Simple.j0 k y0 y1 y2) (poly_Simple.j0 (k + 1) y0 y1 y2)) ∧ (∀ y0 y1 y2 y3, LeO (poly_Simple.l0 k y0 y1 y2 y3) (poly_Simple.l0 (k + 1) y0 y1 y2 y3)) ∧ (∀ y0 y1 y2 y3 y4 y5 y6 y7 y8 y9 y10, LeO (poly_Simple.l1 k y0 y1 y2 y3 y4 y5 y6 y7 y8 y9 y10) (poly_Simple.l1 (k + 1) y0 y1 y2 y3 y4 y5 y6 y7 y8 y9 y10)) ∧ (∀ y0 y1 y2 y3 y4 y5 y6 y7 y8 y9 y10 y11 y12 y13 y14 y15 y16, LeO (poly_Simple.j3 k y0 y1 y2 y3 y4 y5 y6 y7 y8 y9 y10 y11 y12 y13 y14 y15 y16) (poly_Simple.j3 (k + 1) y0 y1 y2 y3 y4 y5 y6 y7 y8 y9 y10 y11 y12 y13 y14 y15 y16))
 | 0 => ⟨fun _ _ _ r h => by simp [poly_Simple.j0] at h, fun _ _ _ _ r h => by simp [poly_Simple.l0] at h, fun _ _ _ _ _ _ _ _ _ _ _ r h => by simp [poly_Simple.l1] at h, fun _ _ _ _ _ _ _ _ _ _ _ _ _ _ _ _ _ r h => by simp [poly_Simple.j3] at h⟩
 | k + 1 => by
  obtain ⟨ih0, ih1, ih2, ih3⟩ := poly_Simple.mono_l k
  refine ⟨?_, ?_, ?_, ?_⟩
  ·intro y0 y1 y2
   unfold poly_Simple.j0
   repeat' first
   | (with_reducible exact ih0 _ _ _)
   | (with_reducible exact ih1 _ _ _ _)
   | (with_reducible exact ih2 _ _ _ _ _ _ _ _ _ _ _)
   | (with_reducible exact ih3 _ _ _ _ _ _ _ _ _ _ _ _ _ _ _ _ _)
   | (with_reducible exact seg_Relate.mono _ _ _ _ _ _ _ _ _)
   | (with_reducible exact LeO.refl _)
   | (with_reducible exact LeO.none _)
   | (with_reducible refine LeO.ite ?_ ?_)
   | (with_reducible refine LeO.bind ?_ (fun _ => ?_))
   | exact ih0 _ _ _
   | exact ih1 _ _ _ _
   | exact ih2 _ _ _ _ _ _ _ _ _ _ _
   | exact ih3 _ _ _ _ _ _ _ _ _ _ _ _ _ _ _ _ _
   | exact seg_Relate.mono _ _ _ _ _ _ _ _ _
   | exact LeO.none _
   | refine LeO.ite ?_ ?_
   | refine LeO.bind ?_ (fun _ => ?_)
  ·intro y0 y1 y2 y3
   unfold poly_Simple.l0
   repeat' first
   | (with_reducible exact ih0 _ _ _)
   | (with_reducible exact ih1 _ _ _ _)
   | (with_reducible exact ih2 _ _ _ _ _ _ _ _ _ _ _)
   | (with_reducible exact ih3 _ _ _ _ _ _ _ _ _ _ _ _ _ _ _ _ _)
   | (with_reducible exact seg_Relate.mono _ _ _ _ _ _ _ _ _)
   | (with_reducible exact LeO.refl _)
   | (with_reducible exact LeO.none _)
   | (with_reducible refine LeO.ite ?_ ?_)
   | (with_reducible refine LeO.bind ?_ (fun _ => ?_))
   | exact ih0 _ _ _
   | exact ih1 _ _ _ _
   | exact ih2 _ _ _ _ _ _ _ _ _ _ _
   | exact ih3 _ _ _ _ _ _ _ _ _ _ _ _ _ _ _ _ _
   | exact seg_Relate.mono _ _ _ _ _ _ _ _ _
   | exact LeO.none _
   | refine LeO.ite ?_ ?_
   | refine LeO.bind ?_ (fun _ => ?_)
  ·intro y0 y1 y2 y3 y4 y5 y6 y7 y8 y9 y10
   unfold poly_Simple.l1
   repeat' first
   | (with_reducible exact ih0 _ _ _)
   | (with_reducible exact ih1 _ _ _ _)
   | (with_reducible exact ih2 _ _ _ _ _ _ _ _ _ _ _)
   | (with_reducible exact ih3 _ _ _ _ _ _ _ _ _ _ _ _ _ _ _ _ _)
   | (with_reducible exact seg_Relate.mono _ _ _ _ _ _ _ _ _)
   | (with_reducible exact LeO.refl _)
   | (with_reducible exact LeO.none _)
   | (with_reducible refine LeO.ite ?_ ?_)
   | (with_reducible refine LeO.bind ?_ (fun _ => ?_))
   | exact ih0 _ _ _
   | exact ih1 _ _ _ _
   | exact ih2 _ _ _ _ _ _ _ _ _ _ _
   | exact ih3 _ _ _ _ _ _ _ _ _ _ _ _ _ _ _ _ _
   | exact seg_Relate.mono _ _ _ _ _ _ _ _ _
   | exact LeO.none _
   | refine LeO.ite ?_ ?_
   | refine LeO.bind ?_ (fun _ => ?_)
  ·intro y0 y1 y2 y3 y4 y5 y6 y7 y8 y9 y10 y11 y12 y13 y14 y15 y16
   unfold poly_Simple.j3
   repeat' first
   | (with_reducible exact ih0 _ _ _)
   | (with_reducible exact ih1 _ _ _ _)
   | (with_reducible exact ih2 _ _ _ _ _ _ _ _ _ _ _)
   | (with_reducible exact ih3 _ _ _ _ _ _ _ _ _ _ _ _ _ _ _ _ _)
   | (with_reducible exact seg_Relate.mono _ _ _ _ _ _ _ _ _)
   | (with_reducible exact LeO.refl _)
   | (with_reducible exact LeO.none _)
   | (with_reducible refine LeO.ite ?_ ?_)
   | (with_reducible refine LeO.bind ?_ (fun _ => ?_))
   | exact ih0 _ _ _
   | exact ih1 _ _ _ _
   | exact ih2 _ _ _ _ _ _ _ _ _ _ _
   | exact ih3 _ _ _ _ _ _ _ _ _ _ _ _ _ _ _ _ _
   | exact seg_Relate.mono _ _ _ _ _ _ _ _ _
   | exact LeO.none _
   | refine LeO.ite ?_ ?_
   | refine LeO.bind ?_ (fun _ => ?_)
theorem poly_Simple.mono : ∀ a0 k, LeO (poly_Simple.f k a0) (poly_Simple.f (k + 1) a0) := by
 intro a0 k
 obtain ⟨ih0, ih1, ih2, ih3⟩ := poly_Simple.mono_l k
 unfold poly_Simple.f
 repeat' first
   | (with_reducible exact ih0 _ _ _)
   | (with_reducible exact ih1 _ _ _ _)
   | (with_reducible exact ih2 _ _ _ _ _ _ _ _ _ _ _)
   | (with_reducible exact ih3 _ _ _ _ _ _ _ _ _ _ _ _ _ _ _ _ _)
   | (with_reducible exact seg_Relate.mono _ _ _ _ _ _ _ _ _)
   | (with_reducible exact LeO.refl _)
   | (with_reducible exact LeO.none _)
   | (with_reducible refine LeO.ite ?_ ?_)
   | (with_reducible refine LeO.bind ?_ (fun _ => ?_))
   | exact ih0 _ _ _
   | exact ih1 _ _ _ _
   | exact ih2 _ _ _ _ _ _ _ _ _ _ _
   | exact ih3 _ _ _ _ _ _ _ _ _ _ _ _ _ _ _ _ _
   | exact seg_Relate.mono _ _ _ _ _ _ _ _ _
   | exact LeO.none _
   | refine LeO.ite ?_ ?_
   | refine LeO.bind ?_ (fun _ => ?_)
def poly_Simple.T7 : Bool × List (List Nat × List Nat) := (true, [([], []), ([], []), ([0, 1], [0, 1]), ([2], [2]), ([], []), ([], []), ([5], [5]), ([], []), ([6, 7], [6, 7]), ([4, 8], [4, 8]), ([9], [9]), ([], []), ([], []), ([11, 3, 0, 1, 2, 3, 11, 12], [3, 11]), ([12, 10, 13, 0, 1, 2, 3, 4, 5, 6, 7, 8, 9, 10, 11, 12, 13], [10, 12])])
def poly_Simple.B7 : List Nat := [0, 0, 3, 7, 0, 0, 32, 0, 224, 496, 1008, 0, 0, 6159, 16383]
theorem poly_Simple.tab7 : rtab .any (opsOf Try.f12 7) = poly_Simple.T7 := by kernel_rfl
theorem poly_Simple.bits7 : waitsOk poly_Simple.T7.2 poly_Simple.B7 = true := by kernel_rfl
def poly_Simple.T11 : Bool × List (List Nat × List Nat) := (true, [([], []), ([], []), ([0, 1], [0, 1]), ([2], [2]), ([], []), ([], []), ([5], [5]), ([], []), ([6, 7], [6, 7]), ([4, 8], [4, 8]), ([9], [9]), ([], []), ([], []), ([11, 3, 0, 1, 2, 3, 11, 12], [3, 11]), ([12, 10, 13, 0, 1, 2, 3, 4, 5, 6, 7, 8, 9, 10, 11, 12, 13], [10, 12])])
def poly_Simple.B11 : List Nat := [0, 0, 3, 7, 0, 0, 32, 0, 224, 496, 1008, 0, 0, 6159, 16383]
theorem poly_Simple.tab11 : rtab .any (opsOf Try.f12 11) = poly_Simple.T11 := by kernel_rfl
theorem poly_Simple.bits11 : waitsOk poly_Simple.T11.2 poly_Simple.B11 = true := by kernel_rfl
set_option maxHeartbeats 8000000 in
set_option maxRecDepth 100000 in
theorem poly_Simple.calls (k : Nat) (A0 : Option Addr) (c0 : Nat) (l0 : List (S30)) (r : Bool) (w : World) (hr0 : Kd.C k30 w A0 l0.length l0) (hc0 : l0.length ≤ c0) (h : poly_Simple.f k l0 = some r) :
  Calls Try.prog 12 #[.slice A0 l0.length c0] w fun e w' => e = .returned (.bool r) ∧ Below w.heap.size w w' := by
 have hu30 := Try.underlying30; have hu45 := Try.underlying45; have HR0 := Aside0.mk hr0; have HC0 := Aside0.mk hc0; clear hr0 hc0; have HB := Aside0.mk (Below.refl w.heap.size w); have H : (if (l0.length : Int) < 3 then (poly_Simple.j0 k l0 (l0.length : Int) true) else ((poly_valid.f l0).bind fun t165 => (poly_Simple.j0 k l0 (l0.length : Int) (!t165)))) = some r := h; clear h; have HC2 := Aside0.mk H; clear H
 go_enter Try.func12, Try.ntmps12
 go_upto_region 2 with (fail)
 go_cut [19] (fun v19 wc => ∃ (kq : Nat) (x19_1 : Bool), v19 = .bool x19_1 ∧ Aside0 (poly_Simple.j0 kq l0 (l0.length : Int) x19_1 = some r) ∧ Aside0 (kq ≤ k) ∧ Aside0 (Below w.heap.size w wc))
 case first =>
  have H := HC2.out; clear HC2
  by_cases c3 : (l0.length : Int) < 3
  ·rw [if_pos c3] at H
   have c3b0 : decide ((l0.length : Int) < 3) = true := decide_eq_true c3; have c3b1 : decide (l0.length < 3) = true := decide_eq_true (by omega); clear c3; (first | rw [c3b0] | (simp only [i64_w, i32_w]; rw [c3b0]) | skip); have H' := Aside0.mk H; clear H
   go_wp2
   go_meet
   case rel => exact ⟨_, (true), (by first | rfl | (simp; done) | (simp [*]; done)), H', ⟨by first | omega | exact Nat.le_refl _⟩, ⟨bB HB.out⟩⟩
  ·rw [if_neg c3] at H
   have c3b0 : decide ((l0.length : Int) < 3) = false := decide_eq_false c3; have c3b1 : decide (l0.length < 3) = false := decide_eq_false (by omega); clear c3; (first | rw [c3b0] | (simp only [i64_w, i32_w]; rw [c3b0]) | skip); replace H := Option.bind_eq_some_iff.mp H; obtain ⟨t165, A40, H⟩ := H; replace H : (poly_Simple.j0 k l0 (l0.length : Int) (!t165)) = some r := H; have A4 := Aside0.mk A40; clear A40; have H' := Aside0.mk H; clear H
   go_wp2_with (first | (go_at_call 28; (with_reducible refine (poly_valid.calls _ _ l0 t165 _ ?side1 ?side2 A4.out).mono ?_); (case side1 => repeat (first | exact (Kd.C_below HR0.out HB.out) | (with_reducible refine Kd.C_alloc ?_ _) | (with_reducible refine Kd.C_drewN ?_ _) | (with_reducible refine Kd.C_drew ?_))); (case side2 => exact HC0.out); rintro e w5 ⟨rfl, hb⟩; have n0_ := Aside0.mk (below_step (bB HB.out) hb); clear HB; have HB := n0_; clear n0_; (try clear hb); (try clear hb2); (try clear hk); (try clear hi)))
   go_meet
   case rel => exact ⟨_, (!t165), (by first | rfl | (simp; done) | (simp [*]; done)), H', ⟨by first | omega | exact Nat.le_refl _⟩, ⟨bB HB.out⟩⟩
 case rest =>
  clear HC2
  try clear c1
  try clear p2
  try clear c3
  try clear c3b0
  try clear c3b1
  obtain ⟨kq, x19_1, rfl, HA, HJ1, HB⟩ := hcut
  cases kq with
  | zero => exact absurd HA.out (by simp [poly_Simple.j0])
  | succ kj1 =>
   have H := HA.out; clear HA; simp only [poly_Simple.j0] at H
   by_cases c6 : x19_1 = true
   ·subst c6; have H1 : (some false) = some r := by rw [if_pos rfl] at H; exact H
    clear H; have H := H1; clear H1; obtain rfl := Option.some.inj H
    go_wp2
    go_ret
    exact ⟨by first | rfl | (simp [errW_none, errW_some] <;> rfl) | (simp [*, errW_none, errW_some] <;> rfl), bB HB.out⟩
   ·replace c6 := Bool.eq_false_iff.mpr c6; subst c6; have H1 : (poly_Simple.l0 kj1 l0 (l0.length : Int) (l0.length : Int) 0) = some r := by rw [if_neg (show ¬ (false = true) by decide)] at H; exact H
    clear H; have H := H1; clear H1; have H' := Aside0.mk H; clear H
    go_wp2
    go_loopg [21] kj1 (fun kq v21 w' => ∃ (x21_2 : Int), v21 = .int .i64 x21_2 ∧ Aside0 (poly_Simple.l0 kq l0 (l0.length : Int) (l0.length : Int) x21_2 = some r) ∧ Aside0 (kq ≤ kj1) ∧ Aside0 (Below w.heap.size w w'))
    case atStart => exact ⟨(0), (by first | rfl | (simp; done) | (simp [*]; done)), H', ⟨Nat.le_refl _⟩, ⟨bB HB.out⟩⟩
    case round =>
     clear H'
     try clear c1
     try clear p2
     try clear c3
     try clear c3b0
     try clear c3b1
     try clear c6
     try clear p2
     obtain ⟨x21_2, rfl, HA, HK2, HB⟩ := hrel
     cases gk with
     | zero => exact absurd HA.out (by simp [poly_Simple.l0])
     | succ k2 =>
      have H := HA.out; clear HA; simp only [poly_Simple.l0] at H
      by_cases c7 : x21_2 < (l0.length : Int)
      ·rw [if_pos c7] at H
       have c7b0 : decide (x21_2 < (l0.length : Int)) = true := decide_eq_true c7; clear c7
       by_cases c8 : 0 ≤ x21_2
       ·rw [if_pos c8] at H
        have c8b0 : decide (0 ≤ x21_2) = true := decide_eq_true c8; clear c8
        by_cases c9 : x21_2 < (l0.length : Int)
        ·rw [if_pos c9] at H
         have c9b0 : decide (x21_2 < (l0.length : Int)) = true := decide_eq_true c9; clear c9
         by_cases c10 : (l0.length : Int) = 0
         ·rw [if_pos c10] at H
          exact absurd H (by simp)
         ·rw [if_neg c10] at H
          have c10b0 : ((l0.length : Int) == 0) = false := beq_eq_false_iff_ne.mpr c10; have c10b1 : ((l0.length : Int) != 0) = true := bne_iff_ne.mpr c10; have c10b2 : ¬ (l0 = []) := fun h_ => c10 (by rw [h_]; rfl)
          obtain ⟨ji11, hji11⟩ : ∃ j_ : Int, (Int.tmod (wrap64 (x21_2 + 1)) (l0.length : Int)) = j_ := ⟨_, rfl⟩; replace H : (if 0 ≤ (ji11) then (if (ji11) < (l0.length : Int) then (poly_Simple.l1 k2 l0 (l0.length : Int) x21_2 (l0.length : Int) x21_2 x21_2 0 ((rd_T30 l0 x21_2).f0) ((rd_T30 l0 x21_2).f1) ((rd_T30 l0 (ji11)).f0) ((rd_T30 l0 (ji11)).f1)) else (none)) else (none)) = some r := by first | (rw [hji11] at H; exact H) | (simp only [hji11] at H ⊢; exact H)
          by_cases c12 : 0 ≤ (ji11)
          ·rw [if_pos c12] at H
           have c12b0 : decide (0 ≤ (ji11)) = true := decide_eq_true c12; clear c12
           by_cases c13 : (ji11) < (l0.length : Int)
           ·rw [if_pos c13] at H
            have c13b0 : decide ((ji11) < (l0.length : Int)) = true := decide_eq_true c13; clear c13; have H' := Aside0.mk H; clear H
            try go_wp2
            have n0_ := Aside0.mk (below_drew1 HB.out); clear HB; have HB := n0_; clear n0_; have p166 : 0 ≤ (x21_2 : Int) := of_decide_eq_true (by first | (with_reducible assumption) | assumption); have q166 : x21_2 < (l0.length : Int) := of_decide_eq_true (by first | (with_reducible assumption) | assumption); obtain ⟨ad166, e166, hx166_0, hx166_1⟩ := at_T30 HR0.out x21_2 p166 q166; have hw166_1 := hx166_1; have hw166_0 := hx166_0
            cases e166
            replace hx166_0 := (HB.out.cell (World.block_lt_of_cell? w _ hx166_0)).trans hx166_0; replace hx166_1 := (HB.out.cell (World.block_lt_of_cell? w _ hx166_1)).trans hx166_1; replace p166 := eq_true p166; replace q166 := eq_true q166; have p167 : 0 ≤ ((ji11) : Int) := of_decide_eq_true (by first | (with_reducible assumption) | assumption); have q167 : (ji11) < (l0.length : Int) := of_decide_eq_true (by first | (with_reducible assumption) | assumption); obtain ⟨ad167, e167, hx167_0, hx167_1⟩ := at_T30 HR0.out (ji11) p167 q167; have hw167_1 := hx167_1; have hw167_0 := hx167_0; obtain rfl : ad166 = ad167 := (by injection e167); replace hx167_0 := (HB.out.cell (World.block_lt_of_cell? w _ hx167_0)).trans hx167_0; replace hx167_1 := (HB.out.cell (World.block_lt_of_cell? w _ hx167_1)).trans hx167_1; replace p167 := eq_true p167; replace q167 := eq_true q167; refine start_ (n := 15) (S := fun w' => w'.cell? (ad166.add ((x21_2).toNat * 2)) = some (.int .i64 ((rd_T30 l0 x21_2).f0)) ∧ w'.cell? ⟨(ad166.add ((x21_2).toNat * 2)).block, (ad166.add ((x21_2).toNat * 2)).off + 1, none⟩ = some (.int .i64 ((rd_T30 l0 x21_2).f1)) ∧ w'.cell? (ad166.add (((ji11)).toNat * 2)) = some (.int .i64 ((rd_T30 l0 (ji11)).f0)) ∧ w'.cell? ⟨(ad166.add (((ji11)).toNat * 2)).block, (ad166.add (((ji11)).toNat * 2)).off + 1, none⟩ = some (.int .i64 ((rd_T30 l0 (ji11)).f1))) (ds := []) #[F, F, F, F, F, F, F, F, F, F, F, F, F, F, F] (by kernel_rfl) rfl rfl ⟨((HB.out.cell (World.block_lt_of_cell? w _ hw166_0)).trans hw166_0), ((HB.out.cell (World.block_lt_of_cell? w _ hw166_1)).trans hw166_1), ((HB.out.cell (World.block_lt_of_cell? w _ hw167_0)).trans hw167_0), ((HB.out.cell (World.block_lt_of_cell? w _ hw167_1)).trans hw167_1)⟩ (fun hHeld => ?_); refine with_tabW poly_Simple.tab7 poly_Simple.bits7 (fun HT_ HW_ => ?_); generalize wr.drew = w14 at HB hx166_0 hx166_1 hx167_0 hx167_1 hHeld ⊢
            refine pure_ (i := 0) (N := some 24) (v := ?_) (a' := ?_) #[T, F, F, F, F, F, F, F, F, F, F, F, F, F, F] rfl rfl (any_of HT_.out (by kernel_rfl)) (fun _ _ _ h => h) (Or.inl ⟨by rfl, ?_⟩) ?_ ?_; rotate_left
            ·intro w'; go_simp; with_reducible rfl
            rotate_left
            ·simp only [Act.put, List.setIfInBounds_toArray, List.set_cons_zero, List.set_cons_succ, i64_w, i32_w]; rfl
            refine pure_ (i := 1) (N := some 25) (v := ?_) (a' := ?_) #[T, T, F, F, F, F, F, F, F, F, F, F, F, F, F] rfl rfl (any_of HT_.out (by kernel_rfl)) (fun _ _ _ h => h) (Or.inl ⟨by rfl, ?_⟩) ?_ ?_; rotate_left
            ·intro w'; go_simp; with_reducible rfl
            rotate_left
            ·simp only [Act.put, List.setIfInBounds_toArray, List.set_cons_zero, List.set_cons_succ, i64_w, i32_w]; rfl
            refine pure_ (i := 2) (N := some 26) (v := ?_) (a' := ?_) #[T, T, T, F, F, F, F, F, F, F, F, F, F, F, F] rfl rfl (any_of HT_.out (by kernel_rfl)) (fun _ _ _ h => h) (Or.inl ⟨by rfl, ?_⟩) ?_ ?_; rotate_left
            ·intro w'; go_simp; with_reducible rfl
            rotate_left
            ·simp only [Act.put, List.setIfInBounds_toArray, List.set_cons_zero, List.set_cons_succ, i64_w, i32_w]; rfl
            refine pure_ (i := 4) (N := some 28) (v := ?_) (a' := ?_) #[T, T, T, F, T, F, F, F, F, F, F, F, F, F, F] rfl rfl (any_of HT_.out (by kernel_rfl)) (fun _ _ _ h => h) (Or.inl ⟨by rfl, ?_⟩) ?_ ?_; rotate_left
            ·intro w'; go_simp; with_reducible rfl
            rotate_left
            ·simp only [Act.put, List.setIfInBounds_toArray, List.set_cons_zero, List.set_cons_succ, i64_w, i32_w]; rfl
            refine pure_ (i := 5) (N := some 29) (v := ?_) (a' := ?_) #[T, T, T, F, T, T, F, F, F, F, F, F, F, F, F] rfl rfl (any_of HT_.out (by kernel_rfl)) (fun _ _ _ h => h) (Or.inl ⟨by rfl, ?_⟩) ?_ ?_; rotate_left
            ·intro w'; go_simp; with_reducible rfl
            rotate_left
            ·simp only [Act.put, List.setIfInBounds_toArray, List.set_cons_zero, List.set_cons_succ, i64_w, i32_w]; rfl
            refine pure_ (i := 6) (N := some 30) (v := ?_) (a' := ?_) #[T, T, T, F, T, T, T, F, F, F, F, F, F, F, F] rfl rfl (any_of HT_.out (by kernel_rfl)) (fun _ _ _ h => h) (Or.inl ⟨by rfl, ?_⟩) ?_ ?_; rotate_left
            ·intro w'; go_simp; with_reducible rfl
            rotate_left
            ·simp only [Act.put, List.setIfInBounds_toArray, List.set_cons_zero, List.set_cons_succ, i64_w, i32_w]; rfl
            refine pure_ (i := 7) (N := some 31) (v := ?_) (a' := ?_) #[T, T, T, F, T, T, T, T, F, F, F, F, F, F, F] rfl rfl (any_of HT_.out (by kernel_rfl)) (fun _ _ _ h => h) (Or.inl ⟨by rfl, ?_⟩) ?_ ?_; rotate_left
            ·intro w'; go_simp; with_reducible rfl
            rotate_left
            ·simp only [Act.put, List.setIfInBounds_toArray, List.set_cons_zero, List.set_cons_succ, i64_w, i32_w]; rfl
            refine pure_ (i := 8) (N := some 32) (v := ?_) (a' := ?_) #[T, T, T, F, T, T, T, T, T, F, F, F, F, F, F] rfl rfl (any_of HT_.out (by kernel_rfl)) (fun _ _ _ h => h) (Or.inl ⟨by rfl, ?_⟩) ?_ ?_; rotate_left
            ·intro w'; go_simp; with_reducible rfl
            rotate_left
            ·simp only [Act.put, List.setIfInBounds_toArray, List.set_cons_zero, List.set_cons_succ, i64_w, i32_w]; rfl
            refine pure_ (i := 9) (N := some 33) (v := ?_) (a' := ?_) #[T, T, T, F, T, T, T, T, T, T, F, F, F, F, F] rfl rfl (any_of HT_.out (by kernel_rfl)) (fun _ _ _ h => h) (Or.inl ⟨by rfl, ?_⟩) ?_ ?_; rotate_left
            ·intro w'; go_simp; with_reducible rfl
            rotate_left
            ·simp only [Act.put, List.setIfInBounds_toArray, List.set_cons_zero, List.set_cons_succ, i64_w, i32_w]; rfl
            refine take_ (i := 3) (N := some 27) (v := ?_) (a' := ?_) #[T, T, T, T, T, T, T, T, T, T, F, F, F, F, F] rfl rfl (take_ofW HT_.out HW_.out (by kernel_rfl)) (fun _ _ _ h => h) (Or.inl ⟨by rfl, ?_⟩) hHeld ?_ ?_; rotate_left
            ·rintro w' ⟨s0, s1, s2, s3⟩; go_simp; with_reducible rfl
            rotate_left
            ·simp only [Act.put, List.setIfInBounds_toArray, List.set_cons_zero, List.set_cons_succ, i64_w, i32_w]; rfl
            refine take_ (i := 10) (N := some 34) (v := ?_) (a' := ?_) #[T, T, T, T, T, T, T, T, T, T, T, F, F, F, F] rfl rfl (take_ofW HT_.out HW_.out (by kernel_rfl)) (fun _ _ _ h => h) (Or.inl ⟨by rfl, ?_⟩) hHeld ?_ ?_; rotate_left
            ·rintro w' ⟨s0, s1, s2, s3⟩; go_simp; with_reducible rfl
            rotate_left
            ·simp only [Act.put, List.setIfInBounds_toArray, List.set_cons_zero, List.set_cons_succ, i64_w, i32_w]; rfl
            refine join_ (σ := Nat × Nat) 2 #[T, T, T, T, T, T, T, T, T, T, T, T, T, F, F] (fun s_ => [(5, .pointer (some ⟨s_.1, 0, none⟩)), (6, .pointer (some ⟨s_.2, 0, none⟩))]) (fun s_ w' => (w'.cell? (ad166.add ((x21_2).toNat * 2)) = some (.int .i64 ((rd_T30 l0 x21_2).f0)) ∧ w'.cell? ⟨(ad166.add ((x21_2).toNat * 2)).block, (ad166.add ((x21_2).toNat * 2)).off + 1, none⟩ = some (.int .i64 ((rd_T30 l0 x21_2).f1)) ∧ w'.cell? (ad166.add (((ji11)).toNat * 2)) = some (.int .i64 ((rd_T30 l0 (ji11)).f0)) ∧ w'.cell? ⟨(ad166.add (((ji11)).toNat * 2)).block, (ad166.add (((ji11)).toNat * 2)).off + 1, none⟩ = some (.int .i64 ((rd_T30 l0 (ji11)).f1))) ∧ (w'.heap[s_.1]? = some (.cells #[.int .i64 0, .int .i64 0] 30 (0, 0))) ∧ (w'.heap[s_.2]? = some (.cells #[.int .i64 0, .int .i64 0] 30 (0, 0))) ∧ (w.heap.size ≤ s_.1) ∧ (w.heap.size ≤ s_.1) ∧ (s_.2 ≠ s_.1) ∧ (s_.1 ≠ s_.2) ∧ (w.heap.size ≤ s_.2) ∧ (w.heap.size ≤ s_.2) ∧ (Below w.heap.size w w')) ?_ ?_; rotate_left
            ·intro hCont; refine two_ (i := 11) (j := 12) (Ni := some 5) (Nj := some 6) #[T, T, T, T, T, T, T, T, T, T, T, T, F, F, F] #[T, T, T, T, T, T, T, T, T, T, T, F, T, F, F] rfl rfl rfl rfl (two_of HT_.out (by kernel_rfl)) (by decide) (by decide) (fun K hK => ?_) (fun K hK => ?_)
             ·skip; refine box_step ?hg (N := 5) ?hd (cs := #[.int .i64 0, .int .i64 0]) (t := 30) ?hr ?_; (case hd => rfl); (case hg => rfl); (case hr => first | (go_simp; done) | (go_simp; rfl)); intro gb168 hg w15 hbox hb; have n0_ := Aside0.mk (below_step (bB HB.out) hb); have n1_ := Aside0.mk (hbox); have n2_ := Aside0.mk ((by rw [hg]; exact (below_size (bB HB.out)) : w.heap.size ≤ gb168)); have n3_ := n2_; clear HB; have HB := n0_; have BK168 := n1_; have GW168 := n2_; have GE168 := n3_; clear n0_ n1_ n2_ n3_ hb hbox hg; refine hK.out _ _ ⟨((HB.out.cell (World.block_lt_of_cell? w _ hw166_0)).trans hw166_0), ((HB.out.cell (World.block_lt_of_cell? w _ hw166_1)).trans hw166_1), ((HB.out.cell (World.block_lt_of_cell? w _ hw167_0)).trans hw167_0), ((HB.out.cell (World.block_lt_of_cell? w _ hw167_1)).trans hw167_1)⟩ (fun hHeld => ?_); clear hK K; refine norm_ (a' := ?_) ?_ ?_; rotate_left
              ·show Act.put _ (some 5) _ = _; simp only [Act.put, List.setIfInBounds_toArray, List.set_cons_zero, List.set_cons_succ, i64_w, i32_w]; rfl
              refine one_ (i := 12) (N := some 6) #[T, T, T, T, T, T, T, T, T, T, T, T, T, F, F] rfl rfl (one_of HT_.out (by kernel_rfl)) (by decide) (fun K hK => ?_); refine box_step ?hg (N := 6) ?hd (cs := #[.int .i64 0, .int .i64 0]) (t := 30) ?hr ?_; (case hd => rfl); (case hg => rfl); (case hr => first | (go_simp; done) | (go_simp; rfl)); intro gb169 hg w16 hbox hb; have n0_ := Aside0.mk (blk_below (bI BK168.out) hb); have n1_ := Aside0.mk (below_step (by repeat with_reducible first | exact HB.out | refine bC ?_ | refine below_set ?_ GE168.out) hb); have n2_ := Aside0.mk (hbox); have n3_ := Aside0.mk ((by rw [hg]; exact (below_size (by repeat with_reducible first | exact HB.out | refine bC ?_ | refine below_set ?_ GE168.out)) : w.heap.size ≤ gb169)); have n4_ := n3_; have n5_ := Aside0.mk ((by rw [hg]; exact Nat.ne_of_lt (blk_lt (bI BK168.out)) : gb168 ≠ gb169)); have n6_ : Aside0 (gb169 ≠ gb168) := ⟨Ne.symm n5_.out⟩; clear BK168 HB; have BK168 := n0_; have HB := n1_; have BK169 := n2_; have GW169 := n3_; have GE169 := n4_; have NB168_169 := n5_; have NB169_168 := n6_; clear n0_ n1_ n2_ n3_ n4_ n5_ n6_ hb hbox hg; refine hK.out _ _ ⟨((HB.out.cell (World.block_lt_of_cell? w _ hw166_0)).trans hw166_0), ((HB.out.cell (World.block_lt_of_cell? w _ hw166_1)).trans hw166_1), ((HB.out.cell (World.block_lt_of_cell? w _ hw167_0)).trans hw167_0), ((HB.out.cell (World.block_lt_of_cell? w _ hw167_1)).trans hw167_1)⟩ (fun hHeld => ?_); clear hK K; refine norm_ (a' := ?_) ?_ ?_; rotate_left
              ·show Act.put _ (some 6) _ = _; simp only [Act.put, List.setIfInBounds_toArray, List.set_cons_zero, List.set_cons_succ, i64_w, i32_w]; rfl
              exact norm_ (by simp only [putAll, Act.put, List.setIfInBounds_toArray, List.set_cons_zero, List.set_cons_succ]) (hCont (gb168, gb169) _ ⟨hHeld, (bI BK168.out), (bI BK169.out), GW168.out, GE168.out, NB169_168.out, NB168_169.out, GW169.out, GE169.out, (by repeat with_reducible first | exact HB.out | refine bC ?_ | refine below_set ?_ GE168.out | refine below_set ?_ GE169.out)⟩)
             ·skip; refine box_step ?hg (N := 6) ?hd (cs := #[.int .i64 0, .int .i64 0]) (t := 30) ?hr ?_; (case hd => rfl); (case hg => rfl); (case hr => first | (go_simp; done) | (go_simp; rfl)); intro gb169 hg w15 hbox hb; have n0_ := Aside0.mk (below_step (bB HB.out) hb); have n1_ := Aside0.mk (hbox); have n2_ := Aside0.mk ((by rw [hg]; exact (below_size (bB HB.out)) : w.heap.size ≤ gb169)); have n3_ := n2_; clear HB; have HB := n0_; have BK169 := n1_; have GW169 := n2_; have GE169 := n3_; clear n0_ n1_ n2_ n3_ hb hbox hg; refine hK.out _ _ ⟨((HB.out.cell (World.block_lt_of_cell? w _ hw166_0)).trans hw166_0), ((HB.out.cell (World.block_lt_of_cell? w _ hw166_1)).trans hw166_1), ((HB.out.cell (World.block_lt_of_cell? w _ hw167_0)).trans hw167_0), ((HB.out.cell (World.block_lt_of_cell? w _ hw167_1)).trans hw167_1)⟩ (fun hHeld => ?_); clear hK K; refine norm_ (a' := ?_) ?_ ?_; rotate_left
              ·show Act.put _ (some 6) _ = _; simp only [Act.put, List.setIfInBounds_toArray, List.set_cons_zero, List.set_cons_succ, i64_w, i32_w]; rfl
              refine one_ (i := 11) (N := some 5) #[T, T, T, T, T, T, T, T, T, T, T, T, T, F, F] rfl rfl (one_of HT_.out (by kernel_rfl)) (by decide) (fun K hK => ?_); refine box_step ?hg (N := 5) ?hd (cs := #[.int .i64 0, .int .i64 0]) (t := 30) ?hr ?_; (case hd => rfl); (case hg => rfl); (case hr => first | (go_simp; done) | (go_simp; rfl)); intro gb168 hg w16 hbox hb; have n0_ := Aside0.mk (blk_below (bI BK169.out) hb); have n1_ := Aside0.mk (below_step (by repeat with_reducible first | exact HB.out | refine bC ?_ | refine below_set ?_ GE169.out) hb); have n2_ := Aside0.mk (hbox); have n3_ := Aside0.mk ((by rw [hg]; exact (below_size (by repeat with_reducible first | exact HB.out | refine bC ?_ | refine below_set ?_ GE169.out)) : w.heap.size ≤ gb168)); have n4_ := n3_; have n5_ := Aside0.mk ((by rw [hg]; exact Nat.ne_of_lt (blk_lt (bI BK169.out)) : gb169 ≠ gb168)); have n6_ : Aside0 (gb168 ≠ gb169) := ⟨Ne.symm n5_.out⟩; clear BK169 HB; have BK169 := n0_; have HB := n1_; have BK168 := n2_; have GW168 := n3_; have GE168 := n4_; have NB169_168 := n5_; have NB168_169 := n6_; clear n0_ n1_ n2_ n3_ n4_ n5_ n6_ hb hbox hg; refine hK.out _ _ ⟨((HB.out.cell (World.block_lt_of_cell? w _ hw166_0)).trans hw166_0), ((HB.out.cell (World.block_lt_of_cell? w _ hw166_1)).trans hw166_1), ((HB.out.cell (World.block_lt_of_cell? w _ hw167_0)).trans hw167_0), ((HB.out.cell (World.block_lt_of_cell? w _ hw167_1)).trans hw167_1)⟩ (fun hHeld => ?_); clear hK K; refine norm_ (a' := ?_) ?_ ?_; rotate_left
              ·show Act.put _ (some 5) _ = _; simp only [Act.put, List.setIfInBounds_toArray, List.set_cons_zero, List.set_cons_succ, i64_w, i32_w]; rfl
              exact norm_ (by simp only [putAll, Act.put, List.setIfInBounds_toArray, List.set_cons_zero, List.set_cons_succ]) (hCont (gb168, gb169) _ ⟨hHeld, (bI BK168.out), (bI BK169.out), GW168.out, GE168.out, NB169_168.out, NB168_169.out, GW169.out, GE169.out, (by repeat with_reducible first | exact HB.out | refine bC ?_ | refine below_set ?_ GE169.out | refine below_set ?_ GE168.out)⟩)
            rintro ⟨gb168, gb169⟩ w17 ⟨hS_, h0_, h1_, h2_, h3_, h4_, h5_, h6_, h7_, h8_⟩; clear HB; have BK168 := Aside0.mk h0_; have BK169 := Aside0.mk h1_; have GW168 := Aside0.mk h2_; have GE168 := Aside0.mk h3_; have NB169_168 := Aside0.mk h4_; have NB168_169 := Aside0.mk h5_; have GW169 := Aside0.mk h6_; have GE169 := Aside0.mk h7_; have HB := Aside0.mk h8_; clear h0_ h1_ h2_ h3_ h4_ h5_ h6_ h7_ h8_; have hHeld : w17.cell? (ad166.add ((x21_2).toNat * 2)) = some (.int .i64 ((rd_T30 l0 x21_2).f0)) ∧ w17.cell? ⟨(ad166.add ((x21_2).toNat * 2)).block, (ad166.add ((x21_2).toNat * 2)).off + 1, none⟩ = some (.int .i64 ((rd_T30 l0 x21_2).f1)) ∧ w17.cell? (ad166.add (((ji11)).toNat * 2)) = some (.int .i64 ((rd_T30 l0 (ji11)).f0)) ∧ w17.cell? ⟨(ad166.add (((ji11)).toNat * 2)).block, (ad166.add (((ji11)).toNat * 2)).off + 1, none⟩ = some (.int .i64 ((rd_T30 l0 (ji11)).f1)) := hS_; refine norm_ (a' := ?_) ?_ ?_; rotate_left
            ·simp only [putAll, Act.put, List.setIfInBounds_toArray, List.set_cons_zero, List.set_cons_succ]; rfl
            refine one_ (i := 13) (N := none) #[T, T, T, T, T, T, T, T, T, T, T, T, T, T, F] rfl rfl (one_of HT_.out (by kernel_rfl)) (by decide) (fun K hK => ?_); have hs18 : w17.cell? ⟨gb168, 0, none⟩ = some (.int .i64 0) := (blk_cell BK168.out 0).trans rfl; have hfs18 := blk_frozen BK168.out 0; have hns18_1 := NB169_168.out; have hms18_1 := NB168_169.out; have hs19 : w17.cell? ⟨gb168, 1, none⟩ = some (.int .i64 0) := (blk_cell BK168.out 1).trans rfl; have hfs19 := blk_frozen BK168.out 1; have hns19_1 := NB169_168.out; have hms19_1 := NB168_169.out; refine skip_ (w1 := ?_) (by rfl) rfl ?_ ?_; rotate_left
            ·go_simp
             rfl
            refine hK.out _ _ ⟨((cell_far (p := ⟨gb168, _, none⟩) (far_ne hw166_0 GW168.out) _).trans (((cell_far (p := ⟨gb168, _, none⟩) (far_ne hw166_0 GW168.out) _).trans (hHeld.1)))), ((cell_far (p := ⟨gb168, _, none⟩) (far_ne hw166_1 GW168.out) _).trans (((cell_far (p := ⟨gb168, _, none⟩) (far_ne hw166_1 GW168.out) _).trans (hHeld.2.1)))), ((cell_far (p := ⟨gb168, _, none⟩) (far_ne hw167_0 GW168.out) _).trans (((cell_far (p := ⟨gb168, _, none⟩) (far_ne hw167_0 GW168.out) _).trans (hHeld.2.2.1)))), ((cell_far (p := ⟨gb168, _, none⟩) (far_ne hw167_1 GW168.out) _).trans (((cell_far (p := ⟨gb168, _, none⟩) (far_ne hw167_1 GW168.out) _).trans (hHeld.2.2.2))))⟩ (fun hHeld => ?_); clear hK K; refine one_ (i := 14) (N := none) #[T, T, T, T, T, T, T, T, T, T, T, T, T, T, T] rfl rfl (one_of HT_.out (by kernel_rfl)) (by decide) (fun K hK => ?_); have hs20 : w17.cell? ⟨gb169, 0, none⟩ = some (.int .i64 0) := (blk_cell BK169.out 0).trans rfl; have hfs20 := blk_frozen BK169.out 0; have hns20_0 := NB168_169.out; have hms20_0 := NB169_168.out; have hs21 : w17.cell? ⟨gb169, 1, none⟩ = some (.int .i64 0) := (blk_cell BK169.out 1).trans rfl; have hfs21 := blk_frozen BK169.out 1; have hns21_0 := NB168_169.out; have hms21_0 := NB169_168.out; refine skip_ (w1 := ?_) (by rfl) rfl ?_ ?_; rotate_left
            ·go_simp
             rfl
            refine hK.out _ _ ⟨((cell_far (p := ⟨gb169, _, none⟩) (far_ne hw166_0 GW169.out) _).trans (((cell_far (p := ⟨gb169, _, none⟩) (far_ne hw166_0 GW169.out) _).trans (hHeld.1)))), ((cell_far (p := ⟨gb169, _, none⟩) (far_ne hw166_1 GW169.out) _).trans (((cell_far (p := ⟨gb169, _, none⟩) (far_ne hw166_1 GW169.out) _).trans (hHeld.2.1)))), ((cell_far (p := ⟨gb169, _, none⟩) (far_ne hw167_0 GW169.out) _).trans (((cell_far (p := ⟨gb169, _, none⟩) (far_ne hw167_0 GW169.out) _).trans (hHeld.2.2.1)))), ((cell_far (p := ⟨gb169, _, none⟩) (far_ne hw167_1 GW169.out) _).trans (((cell_far (p := ⟨gb169, _, none⟩) (far_ne hw167_1 GW169.out) _).trans (hHeld.2.2.2))))⟩ (fun hHeld => ?_); clear hK K; refine done_ (done_of HT_.out (by kernel_rfl)) ?_
            try go_wp2
            go_loopg [36] k2 (fun kq v36 w' => ∃ (x36_3 : Int), v36 = .int .i64 x36_3 ∧ Aside0 (poly_Simple.l1 kq l0 (l0.length : Int) x21_2 (l0.length : Int) x21_2 x21_2 x36_3 ((rd_T30 l0 x21_2).f0) ((rd_T30 l0 x21_2).f1) ((rd_T30 l0 (ji11)).f0) ((rd_T30 l0 (ji11)).f1) = some r) ∧ Aside0 (kq ≤ k2) ∧ Aside0 (w'.heap[gb168]? = some (.cells #[.int .i64 ((rd_T30 l0 x21_2).f0), .int .i64 ((rd_T30 l0 x21_2).f1)] 30 (0, 0))) ∧ Aside0 (w'.heap[gb169]? = some (.cells #[.int .i64 ((rd_T30 l0 (ji11)).f0), .int .i64 ((rd_T30 l0 (ji11)).f1)] 30 (0, 0))) ∧ Aside0 (Below w.heap.size w w'))
            case atStart => exact ⟨(0), (by first | rfl | (simp; done) | (simp [*]; done)), H', ⟨Nat.le_refl _⟩, ⟨by refine bI ?_; refine blk_far ?_ NB168_169.out _; refine bI ?_; refine blk_far ?_ NB168_169.out _; refine bI ?_; refine blk_put (cs := #[.int .i64 ((rd_T30 l0 x21_2).f0), .int .i64 0]) ?_ 1 _ rfl; refine bI ?_; refine blk_put (cs := #[.int .i64 0, .int .i64 0]) ?_ 0 _ rfl; refine bI ?_; exact BK168.out⟩, ⟨by refine bI ?_; refine blk_put (cs := #[.int .i64 ((rd_T30 l0 (ji11)).f0), .int .i64 0]) ?_ 1 _ rfl; refine bI ?_; refine blk_put (cs := #[.int .i64 0, .int .i64 0]) ?_ 0 _ rfl; refine bI ?_; refine blk_far ?_ NB169_168.out _; refine bI ?_; refine blk_far ?_ NB169_168.out _; refine bI ?_; exact BK169.out⟩, ⟨by repeat with_reducible first | exact HB.out | refine bC ?_ | refine below_set ?_ GE168.out | refine below_set ?_ GE169.out⟩⟩
            case round =>
             clear H'
             try clear c1
             try clear p1
             try clear q1
             try clear hx1
             try clear p2
             try clear c3
             try clear c3b0
             try clear c3b1
             try clear c6
             try clear p6
             try clear c7
             try clear c7b0
             try clear c8
             try clear c8b0
             try clear c9
             try clear c9b0
             try clear c10
             try clear c10b0
             try clear c10b1
             try clear c10b2
             try clear c12
             try clear c12b0
             try clear c13
             try clear c13b0
             try clear p16
             try clear q16
             try clear hx16
             try clear hx166_0
             try clear hx166_1
             try clear hx167_0
             try clear hx167_1
             try clear p166
             try clear p167
             try clear p2
             try clear q166
             try clear q167
             obtain ⟨x36_3, rfl, HA, HK3, BK168, BK169, HB⟩ := hrel
             cases gk with
             | zero => exact absurd HA.out (by simp [poly_Simple.l1])
             | succ k3 =>
              have H := HA.out; clear HA; simp only [poly_Simple.l1] at H
              by_cases c22 : x36_3 < x21_2
              ·rw [if_pos c22] at H
               have c22b0 : decide (x36_3 < x21_2) = true := decide_eq_true c22; clear c22
               by_cases c23 : 0 ≤ x36_3
               ·rw [if_pos c23] at H
                have c23b0 : decide (0 ≤ x36_3) = true := decide_eq_true c23; clear c23
                by_cases c24 : x36_3 < (l0.length : Int)
                ·rw [if_pos c24] at H
                 have c24b0 : decide (x36_3 < (l0.length : Int)) = true := decide_eq_true c24; clear c24
                 by_cases c25 : (l0.length : Int) = 0
                 ·rw [if_pos c25] at H
                  exact absurd H (by simp)
                 ·rw [if_neg c25] at H
                  have c25b0 : ((l0.length : Int) == 0) = false := beq_eq_false_iff_ne.mpr c25; have c25b1 : ((l0.length : Int) != 0) = true := bne_iff_ne.mpr c25; have c25b2 : ¬ (l0 = []) := fun h_ => c25 (by rw [h_]; rfl)
                  obtain ⟨ji26, hji26⟩ : ∃ j_ : Int, (Int.tmod (wrap64 (x36_3 + 1)) (l0.length : Int)) = j_ := ⟨_, rfl⟩; replace H : (if 0 ≤ (ji26) then (if (ji26) < (l0.length : Int) then (if (((rd_T30 l0 x21_2).f0) == ((rd_T30 l0 x36_3).f0) && (((rd_T30 l0 x21_2).f1) == ((rd_T30 l0 x36_3).f1))) = true then (some false) else (if (wrap64 (x36_3 + 1)) = x21_2 then (poly_Simple.j3 k3 l0 (l0.length : Int) x21_2 0 (l0.length : Int) x21_2 x21_2 x36_3 true ((rd_T30 l0 x21_2).f0) ((rd_T30 l0 x21_2).f1) ((rd_T30 l0 (ji11)).f0) ((rd_T30 l0 (ji11)).f1) ((rd_T30 l0 x36_3).f0) ((rd_T30 l0 x36_3).f1) ((rd_T30 l0 (ji26)).f0) ((rd_T30 l0 (ji26)).f1)) else (if (wrap64 (x21_2 + 1)) = (l0.length : Int) then (poly_Simple.j3 k3 l0 (l0.length : Int) x21_2 0 (l0.length : Int) x21_2 x21_2 x36_3 (x36_3 == 0) ((rd_T30 l0 x21_2).f0) ((rd_T30 l0 x21_2).f1) ((rd_T30 l0 (ji11)).f0) ((rd_T30 l0 (ji11)).f1) ((rd_T30 l0 x36_3).f0) ((rd_T30 l0 x36_3).f1) ((rd_T30 l0 (ji26)).f0) ((rd_T30 l0 (ji26)).f1)) else (poly_Simple.j3 k3 l0 (l0.length : Int) x21_2 0 (l0.length : Int) x21_2 x21_2 x36_3 false ((rd_T30 l0 x21_2).f0) ((rd_T30 l0 x21_2).f1) ((rd_T30 l0 (ji11)).f0) ((rd_T30 l0 (ji11)).f1) ((rd_T30 l0 x36_3).f0) ((rd_T30 l0 x36_3).f1) ((rd_T30 l0 (ji26)).f0) ((rd_T30 l0 (ji26)).f1))))) else (none)) else (none)) = some r := by first | (rw [hji26] at H; exact H) | (simp only [hji26] at H ⊢; exact H)
                  by_cases c27 : 0 ≤ (ji26)
                  ·rw [if_pos c27] at H
                   have c27b0 : decide (0 ≤ (ji26)) = true := decide_eq_true c27; clear c27
                   by_cases c28 : (ji26) < (l0.length : Int)
                   ·rw [if_pos c28] at H
                    have c28b0 : decide ((ji26) < (l0.length : Int)) = true := decide_eq_true c28; clear c28
                    by_cases c29 : (((rd_T30 l0 x21_2).f0) == ((rd_T30 l0 x36_3).f0) && (((rd_T30 l0 x21_2).f1) == ((rd_T30 l0 x36_3).f1))) = true
                    ·rw [if_pos c29] at H
                     have c29b0 : (((rd_T30 l0 x21_2).f0) == ((rd_T30 l0 x36_3).f0) && (((rd_T30 l0 x21_2).f1) == ((rd_T30 l0 x36_3).f1))) = true := c29; (try (have c29b1 : decide (((rd_T30 l0 x21_2).f0) = ((rd_T30 l0 x36_3).f0) && (((rd_T30 l0 x21_2).f1) == ((rd_T30 l0 x36_3).f1))) = true := by simpa using c29)); (try (have c29b2 : (((rd_T30 l0 x21_2).f0) == ((rd_T30 l0 x36_3).f0) && (((rd_T30 l0 x21_2).f1) == ((rd_T30 l0 x36_3).f1))) = true := by simpa using c29)); clear c29; obtain rfl := Option.some.inj H
                     try go_wp2
                     have n0_ := Aside0.mk (blk_drew BK168.out); have n1_ := Aside0.mk (blk_drew BK169.out); have n2_ := Aside0.mk (below_drew1 HB.out); clear BK168 BK169 HB; have BK168 := n0_; have BK169 := n1_; have HB := n2_; clear n0_ n1_ n2_; have p170 : 0 ≤ (x36_3 : Int) := of_decide_eq_true (by first | (with_reducible assumption) | assumption); have q170 : x36_3 < (l0.length : Int) := of_decide_eq_true (by first | (with_reducible assumption) | assumption); obtain ⟨ad170, e170, hx170_0, hx170_1⟩ := at_T30 HR0.out x36_3 p170 q170; have hw170_1 := hx170_1; have hw170_0 := hx170_0; obtain rfl : ad166 = ad170 := (by injection e170); replace hx170_0 := (HB.out.cell (World.block_lt_of_cell? w _ hx170_0)).trans hx170_0; replace hx170_1 := (HB.out.cell (World.block_lt_of_cell? w _ hx170_1)).trans hx170_1; replace p170 := eq_true p170; replace q170 := eq_true q170; have p171 : 0 ≤ ((ji26) : Int) := of_decide_eq_true (by first | (with_reducible assumption) | assumption); have q171 : (ji26) < (l0.length : Int) := of_decide_eq_true (by first | (with_reducible assumption) | assumption); obtain ⟨ad171, e171, hx171_0, hx171_1⟩ := at_T30 HR0.out (ji26) p171 q171; have hw171_1 := hx171_1; have hw171_0 := hx171_0; obtain rfl : ad166 = ad171 := (by injection e171); replace hx171_0 := (HB.out.cell (World.block_lt_of_cell? w _ hx171_0)).trans hx171_0; replace hx171_1 := (HB.out.cell (World.block_lt_of_cell? w _ hx171_1)).trans hx171_1; replace p171 := eq_true p171; replace q171 := eq_true q171; refine start_ (n := 15) (S := fun w' => w'.cell? (ad166.add ((x36_3).toNat * 2)) = some (.int .i64 ((rd_T30 l0 x36_3).f0)) ∧ w'.cell? ⟨(ad166.add ((x36_3).toNat * 2)).block, (ad166.add ((x36_3).toNat * 2)).off + 1, none⟩ = some (.int .i64 ((rd_T30 l0 x36_3).f1)) ∧ w'.cell? (ad166.add (((ji26)).toNat * 2)) = some (.int .i64 ((rd_T30 l0 (ji26)).f0)) ∧ w'.cell? ⟨(ad166.add (((ji26)).toNat * 2)).block, (ad166.add (((ji26)).toNat * 2)).off + 1, none⟩ = some (.int .i64 ((rd_T30 l0 (ji26)).f1))) (ds := []) #[F, F, F, F, F, F, F, F, F, F, F, F, F, F, F] (by kernel_rfl) rfl rfl ⟨((HB.out.cell (World.block_lt_of_cell? w _ hw170_0)).trans hw170_0), ((HB.out.cell (World.block_lt_of_cell? w _ hw170_1)).trans hw170_1), ((HB.out.cell (World.block_lt_of_cell? w _ hw171_0)).trans hw171_0), ((HB.out.cell (World.block_lt_of_cell? w _ hw171_1)).trans hw171_1)⟩ (fun hHeld => ?_); refine with_tabW poly_Simple.tab11 poly_Simple.bits11 (fun HT_ HW_ => ?_); generalize wr.drew = w30 at BK168 BK169 HB hx170_0 hx170_1 hx171_0 hx171_1 hHeld ⊢
                     refine pure_ (i := 0) (N := some 39) (v := ?_) (a' := ?_) #[T, F, F, F, F, F, F, F, F, F, F, F, F, F, F] rfl rfl (any_of HT_.out (by kernel_rfl)) (fun _ _ _ h => h) (Or.inl ⟨by rfl, ?_⟩) ?_ ?_; rotate_left
                     ·intro w'; go_simp; with_reducible rfl
                     rotate_left
                     ·simp only [Act.put, List.setIfInBounds_toArray, List.set_cons_zero, List.set_cons_succ, i64_w, i32_w]; rfl
                     refine pure_ (i := 1) (N := some 40) (v := ?_) (a' := ?_) #[T, T, F, F, F, F, F, F, F, F, F, F, F, F, F] rfl rfl (any_of HT_.out (by kernel_rfl)) (fun _ _ _ h => h) (Or.inl ⟨by rfl, ?_⟩) ?_ ?_; rotate_left
                     ·intro w'; go_simp; with_reducible rfl
                     rotate_left
                     ·simp only [Act.put, List.setIfInBounds_toArray, List.set_cons_zero, List.set_cons_succ, i64_w, i32_w]; rfl
                     refine pure_ (i := 2) (N := some 41) (v := ?_) (a' := ?_) #[T, T, T, F, F, F, F, F, F, F, F, F, F, F, F] rfl rfl (any_of HT_.out (by kernel_rfl)) (fun _ _ _ h => h) (Or.inl ⟨by rfl, ?_⟩) ?_ ?_; rotate_left
                     ·intro w'; go_simp; with_reducible rfl
                     rotate_left
                     ·simp only [Act.put, List.setIfInBounds_toArray, List.set_cons_zero, List.set_cons_succ, i64_w, i32_w]; rfl
                     refine pure_ (i := 4) (N := some 43) (v := ?_) (a' := ?_) #[T, T, T, F, T, F, F, F, F, F, F, F, F, F, F] rfl rfl (any_of HT_.out (by kernel_rfl)) (fun _ _ _ h => h) (Or.inl ⟨by rfl, ?_⟩) ?_ ?_; rotate_left
                     ·intro w'; go_simp; with_reducible rfl
                     rotate_left
                     ·simp only [Act.put, List.setIfInBounds_toArray, List.set_cons_zero, List.set_cons_succ, i64_w, i32_w]; rfl
                     refine pure_ (i := 5) (N := some 44) (v := ?_) (a' := ?_) #[T, T, T, F, T, T, F, F, F, F, F, F, F, F, F] rfl rfl (any_of HT_.out (by kernel_rfl)) (fun _ _ _ h => h) (Or.inl ⟨by rfl, ?_⟩) ?_ ?_; rotate_left
                     ·intro w'; go_simp; with_reducible rfl
                     rotate_left
                     ·simp only [Act.put, List.setIfInBounds_toArray, List.set_cons_zero, List.set_cons_succ, i64_w, i32_w]; rfl
                     refine pure_ (i := 6) (N := some 45) (v := ?_) (a' := ?_) #[T, T, T, F, T, T, T, F, F, F, F, F, F, F, F] rfl rfl (any_of HT_.out (by kernel_rfl)) (fun _ _ _ h => h) (Or.inl ⟨by rfl, ?_⟩) ?_ ?_; rotate_left
                     ·intro w'; go_simp; with_reducible rfl
                     rotate_left
                     ·simp only [Act.put, List.setIfInBounds_toArray, List.set_cons_zero, List.set_cons_succ, i64_w, i32_w]; rfl
                     refine pure_ (i := 7) (N := some 46) (v := ?_) (a' := ?_) #[T, T, T, F, T, T, T, T, F, F, F, F, F, F, F] rfl rfl (any_of HT_.out (by kernel_rfl)) (fun _ _ _ h => h) (Or.inl ⟨by rfl, ?_⟩) ?_ ?_; rotate_left
                     ·intro w'; go_simp; with_reducible rfl
                     rotate_left
                     ·simp only [Act.put, List.setIfInBounds_toArray, List.set_cons_zero, List.set_cons_succ, i64_w, i32_w]; rfl
                     refine pure_ (i := 8) (N := some 47) (v := ?_) (a' := ?_) #[T, T, T, F, T, T, T, T, T, F, F, F, F, F, F] rfl rfl (any_of HT_.out (by kernel_rfl)) (fun _ _ _ h => h) (Or.inl ⟨by rfl, ?_⟩) ?_ ?_; rotate_left
                     ·intro w'; go_simp; with_reducible rfl
                     rotate_left
                     ·simp only [Act.put, List.setIfInBounds_toArray, List.set_cons_zero, List.set_cons_succ, i64_w, i32_w]; rfl
                     refine pure_ (i := 9) (N := some 48) (v := ?_) (a' := ?_) #[T, T, T, F, T, T, T, T, T, T, F, F, F, F, F] rfl rfl (any_of HT_.out (by kernel_rfl)) (fun _ _ _ h => h) (Or.inl ⟨by rfl, ?_⟩) ?_ ?_; rotate_left
                     ·intro w'; go_simp; with_reducible rfl
                     rotate_left
                     ·simp only [Act.put, List.setIfInBounds_toArray, List.set_cons_zero, List.set_cons_succ, i64_w, i32_w]; rfl
                     refine take_ (i := 3) (N := some 42) (v := ?_) (a' := ?_) #[T, T, T, T, T, T, T, T, T, T, F, F, F, F, F] rfl rfl (take_ofW HT_.out HW_.out (by kernel_rfl)) (fun _ _ _ h => h) (Or.inl ⟨by rfl, ?_⟩) hHeld ?_ ?_; rotate_left
                     ·rintro w' ⟨s0, s1, s2, s3⟩; go_simp; with_reducible rfl
                     rotate_left
                     ·simp only [Act.put, List.setIfInBounds_toArray, List.set_cons_zero, List.set_cons_succ, i64_w, i32_w]; rfl
                     refine take_ (i := 10) (N := some 49) (v := ?_) (a' := ?_) #[T, T, T, T, T, T, T, T, T, T, T, F, F, F, F] rfl rfl (take_ofW HT_.out HW_.out (by kernel_rfl)) (fun _ _ _ h => h) (Or.inl ⟨by rfl, ?_⟩) hHeld ?_ ?_; rotate_left
                     ·rintro w' ⟨s0, s1, s2, s3⟩; go_simp; with_reducible rfl
                     rotate_left
                     ·simp only [Act.put, List.setIfInBounds_toArray, List.set_cons_zero, List.set_cons_succ, i64_w, i32_w]; rfl
                     refine join_ (σ := Nat × Nat) 2 #[T, T, T, T, T, T, T, T, T, T, T, T, T, F, F] (fun s_ => [(8, .pointer (some ⟨s_.1, 0, none⟩)), (9, .pointer (some ⟨s_.2, 0, none⟩))]) (fun s_ w' => (w'.cell? (ad166.add ((x36_3).toNat * 2)) = some (.int .i64 ((rd_T30 l0 x36_3).f0)) ∧ w'.cell? ⟨(ad166.add ((x36_3).toNat * 2)).block, (ad166.add ((x36_3).toNat * 2)).off + 1, none⟩ = some (.int .i64 ((rd_T30 l0 x36_3).f1)) ∧ w'.cell? (ad166.add (((ji26)).toNat * 2)) = some (.int .i64 ((rd_T30 l0 (ji26)).f0)) ∧ w'.cell? ⟨(ad166.add (((ji26)).toNat * 2)).block, (ad166.add (((ji26)).toNat * 2)).off + 1, none⟩ = some (.int .i64 ((rd_T30 l0 (ji26)).f1))) ∧ (w'.heap[gb168]? = some (.cells #[.int .i64 ((rd_T30 l0 x21_2).f0), .int .i64 ((rd_T30 l0 x21_2).f1)] 30 (0, 0))) ∧ (w'.heap[gb169]? = some (.cells #[.int .i64 ((rd_T30 l0 (ji11)).f0), .int .i64 ((rd_T30 l0 (ji11)).f1)] 30 (0, 0))) ∧ (w'.heap[s_.1]? = some (.cells #[.int .i64 0, .int .i64 0] 30 (0, 0))) ∧ (w'.heap[s_.2]? = some (.cells #[.int .i64 0, .int .i64 0] 30 (0, 0))) ∧ (w.heap.size ≤ s_.1) ∧ (w.heap.size ≤ s_.1) ∧ (gb168 ≠ s_.1) ∧ (s_.1 ≠ gb168) ∧ (gb169 ≠ s_.1) ∧ (s_.1 ≠ gb169) ∧ (s_.2 ≠ s_.1) ∧ (s_.1 ≠ s_.2) ∧ (w.heap.size ≤ s_.2) ∧ (w.heap.size ≤ s_.2) ∧ (gb168 ≠ s_.2) ∧ (s_.2 ≠ gb168) ∧ (gb169 ≠ s_.2) ∧ (s_.2 ≠ gb169) ∧ (Below w.heap.size w w')) ?_ ?_; rotate_left
                     ·intro hCont; refine two_ (i := 11) (j := 12) (Ni := some 8) (Nj := some 9) #[T, T, T, T, T, T, T, T, T, T, T, T, F, F, F] #[T, T, T, T, T, T, T, T, T, T, T, F, T, F, F] rfl rfl rfl rfl (two_of HT_.out (by kernel_rfl)) (by decide) (by decide) (fun K hK => ?_) (fun K hK => ?_)
                      ·skip; refine box_step ?hg (N := 8) ?hd (cs := #[.int .i64 0, .int .i64 0]) (t := 30) ?hr ?_; (case hd => rfl); (case hg => rfl); (case hr => first | (go_simp; done) | (go_simp; rfl)); intro gb172 hg w31 hbox hb; have n0_ := Aside0.mk (blk_below (bI BK168.out) hb); have n1_ := Aside0.mk (blk_below (bI BK169.out) hb); have n2_ := Aside0.mk (below_step (by repeat with_reducible first | exact HB.out | refine bC ?_ | refine below_set ?_ GE168.out | refine below_set ?_ GE169.out) hb); have n3_ := Aside0.mk (hbox); have n4_ := Aside0.mk ((by rw [hg]; exact (below_size (by repeat with_reducible first | exact HB.out | refine bC ?_ | refine below_set ?_ GE168.out | refine below_set ?_ GE169.out)) : w.heap.size ≤ gb172)); have n5_ := n4_; have n6_ := Aside0.mk ((by rw [hg]; exact Nat.ne_of_lt (blk_lt (bI BK168.out)) : gb168 ≠ gb172)); have n7_ : Aside0 (gb172 ≠ gb168) := ⟨Ne.symm n6_.out⟩; have n8_ := Aside0.mk ((by rw [hg]; exact Nat.ne_of_lt (blk_lt (bI BK169.out)) : gb169 ≠ gb172)); have n9_ : Aside0 (gb172 ≠ gb169) := ⟨Ne.symm n8_.out⟩; clear BK168 BK169 HB; have BK168 := n0_; have BK169 := n1_; have HB := n2_; have BK172 := n3_; have GW172 := n4_; have GE172 := n5_; have NB168_172 := n6_; have NB172_168 := n7_; have NB169_172 := n8_; have NB172_169 := n9_; clear n0_ n1_ n2_ n3_ n4_ n5_ n6_ n7_ n8_ n9_ hb hbox hg; refine hK.out _ _ ⟨((HB.out.cell (World.block_lt_of_cell? w _ hw170_0)).trans hw170_0), ((HB.out.cell (World.block_lt_of_cell? w _ hw170_1)).trans hw170_1), ((HB.out.cell (World.block_lt_of_cell? w _ hw171_0)).trans hw171_0), ((HB.out.cell (World.block_lt_of_cell? w _ hw171_1)).trans hw171_1)⟩ (fun hHeld => ?_); clear hK K; refine norm_ (a' := ?_) ?_ ?_; rotate_left
                       ·show Act.put _ (some 8) _ = _; simp only [Act.put, List.setIfInBounds_toArray, List.set_cons_zero, List.set_cons_succ, i64_w, i32_w]; rfl
                       refine one_ (i := 12) (N := some 9) #[T, T, T, T, T, T, T, T, T, T, T, T, T, F, F] rfl rfl (one_of HT_.out (by kernel_rfl)) (by decide) (fun K hK => ?_); refine box_step ?hg (N := 9) ?hd (cs := #[.int .i64 0, .int .i64 0]) (t := 30) ?hr ?_; (case hd => rfl); (case hg => rfl); (case hr => first | (go_simp; done) | (go_simp; rfl)); intro gb173 hg w32 hbox hb; have n0_ := Aside0.mk (blk_below (bI BK168.out) hb); have n1_ := Aside0.mk (blk_below (bI BK169.out) hb); have n2_ := Aside0.mk (blk_below (bI BK172.out) hb); have n3_ := Aside0.mk (below_step (by repeat with_reducible first | exact HB.out | refine bC ?_ | refine below_set ?_ GE168.out | refine below_set ?_ GE169.out | refine below_set ?_ GE172.out) hb); have n4_ := Aside0.mk (hbox); have n5_ := Aside0.mk ((by rw [hg]; exact (below_size (by repeat with_reducible first | exact HB.out | refine bC ?_ | refine below_set ?_ GE168.out | refine below_set ?_ GE169.out | refine below_set ?_ GE172.out)) : w.heap.size ≤ gb173)); have n6_ := n5_; have n7_ := Aside0.mk ((by rw [hg]; exact Nat.ne_of_lt (blk_lt (bI BK168.out)) : gb168 ≠ gb173)); have n8_ : Aside0 (gb173 ≠ gb168) := ⟨Ne.symm n7_.out⟩; have n9_ := Aside0.mk ((by rw [hg]; exact Nat.ne_of_lt (blk_lt (bI BK169.out)) : gb169 ≠ gb173)); have n10_ : Aside0 (gb173 ≠ gb169) := ⟨Ne.symm n9_.out⟩; have n11_ := Aside0.mk ((by rw [hg]; exact Nat.ne_of_lt (blk_lt (bI BK172.out)) : gb172 ≠ gb173)); have n12_ : Aside0 (gb173 ≠ gb172) := ⟨Ne.symm n11_.out⟩; clear BK168 BK169 BK172 HB; have BK168 := n0_; have BK169 := n1_; have BK172 := n2_; have HB := n3_; have BK173 := n4_; have GW173 := n5_; have GE173 := n6_; have NB168_173 := n7_; have NB173_168 := n8_; have NB169_173 := n9_; have NB173_169 := n10_; have NB172_173 := n11_; have NB173_172 := n12_; clear n0_ n1_ n2_ n3_ n4_ n5_ n6_ n7_ n8_ n9_ n10_ n11_ n12_ hb hbox hg; refine hK.out _ _ ⟨((HB.out.cell (World.block_lt_of_cell? w _ hw170_0)).trans hw170_0), ((HB.out.cell (World.block_lt_of_cell? w _ hw170_1)).trans hw170_1), ((HB.out.cell (World.block_lt_of_cell? w _ hw171_0)).trans hw171_0), ((HB.out.cell (World.block_lt_of_cell? w _ hw171_1)).trans hw171_1)⟩ (fun hHeld => ?_); clear hK K; refine norm_ (a' := ?_) ?_ ?_; rotate_left
                       ·show Act.put _ (some 9) _ = _; simp only [Act.put, List.setIfInBounds_toArray, List.set_cons_zero, List.set_cons_succ, i64_w, i32_w]; rfl
                       exact norm_ (by simp only [putAll, Act.put, List.setIfInBounds_toArray, List.set_cons_zero, List.set_cons_succ]) (hCont (gb172, gb173) _ ⟨hHeld, (bI BK168.out), (bI BK169.out), (bI BK172.out), (bI BK173.out), GW172.out, GE172.out, NB168_172.out, NB172_168.out, NB169_172.out, NB172_169.out, NB173_172.out, NB172_173.out, GW173.out, GE173.out, NB168_173.out, NB173_168.out, NB169_173.out, NB173_169.out, (by repeat with_reducible first | exact HB.out | refine bC ?_ | refine below_set ?_ GE168.out | refine below_set ?_ GE169.out | refine below_set ?_ GE172.out | refine below_set ?_ GE173.out)⟩)
                      ·skip; refine box_step ?hg (N := 9) ?hd (cs := #[.int .i64 0, .int .i64 0]) (t := 30) ?hr ?_; (case hd => rfl); (case hg => rfl); (case hr => first | (go_simp; done) | (go_simp; rfl)); intro gb173 hg w31 hbox hb; have n0_ := Aside0.mk (blk_below (bI BK168.out) hb); have n1_ := Aside0.mk (blk_below (bI BK169.out) hb); have n2_ := Aside0.mk (below_step (by repeat with_reducible first | exact HB.out | refine bC ?_ | refine below_set ?_ GE168.out | refine below_set ?_ GE169.out) hb); have n3_ := Aside0.mk (hbox); have n4_ := Aside0.mk ((by rw [hg]; exact (below_size (by repeat with_reducible first | exact HB.out | refine bC ?_ | refine below_set ?_ GE168.out | refine below_set ?_ GE169.out)) : w.heap.size ≤ gb173)); have n5_ := n4_; have n6_ := Aside0.mk ((by rw [hg]; exact Nat.ne_of_lt (blk_lt (bI BK168.out)) : gb168 ≠ gb173)); have n7_ : Aside0 (gb173 ≠ gb168) := ⟨Ne.symm n6_.out⟩; have n8_ := Aside0.mk ((by rw [hg]; exact Nat.ne_of_lt (blk_lt (bI BK169.out)) : gb169 ≠ gb173)); have n9_ : Aside0 (gb173 ≠ gb169) := ⟨Ne.symm n8_.out⟩; clear BK168 BK169 HB; have BK168 := n0_; have BK169 := n1_; have HB := n2_; have BK173 := n3_; have GW173 := n4_; have GE173 := n5_; have NB168_173 := n6_; have NB173_168 := n7_; have NB169_173 := n8_; have NB173_169 := n9_; clear n0_ n1_ n2_ n3_ n4_ n5_ n6_ n7_ n8_ n9_ hb hbox hg; refine hK.out _ _ ⟨((HB.out.cell (World.block_lt_of_cell? w _ hw170_0)).trans hw170_0), ((HB.out.cell (World.block_lt_of_cell? w _ hw170_1)).trans hw170_1), ((HB.out.cell (World.block_lt_of_cell? w _ hw171_0)).trans hw171_0), ((HB.out.cell (World.block_lt_of_cell? w _ hw171_1)).trans hw171_1)⟩ (fun hHeld => ?_); clear hK K; refine norm_ (a' := ?_) ?_ ?_; rotate_left
                       ·show Act.put _ (some 9) _ = _; simp only [Act.put, List.setIfInBounds_toArray, List.set_cons_zero, List.set_cons_succ, i64_w, i32_w]; rfl
                       refine one_ (i := 11) (N := some 8) #[T, T, T, T, T, T, T, T, T, T, T, T, T, F, F] rfl rfl (one_of HT_.out (by kernel_rfl)) (by decide) (fun K hK => ?_); refine box_step ?hg (N := 8) ?hd (cs := #[.int .i64 0, .int .i64 0]) (t := 30) ?hr ?_; (case hd => rfl); (case hg => rfl); (case hr => first | (go_simp; done) | (go_simp; rfl)); intro gb172 hg w32 hbox hb; have n0_ := Aside0.mk (blk_below (bI BK168.out) hb); have n1_ := Aside0.mk (blk_below (bI BK169.out) hb); have n2_ := Aside0.mk (blk_below (bI BK173.out) hb); have n3_ := Aside0.mk (below_step (by repeat with_reducible first | exact HB.out | refine bC ?_ | refine below_set ?_ GE168.out | refine below_set ?_ GE169.out | refine below_set ?_ GE173.out) hb); have n4_ := Aside0.mk (hbox); have n5_ := Aside0.mk ((by rw [hg]; exact (below_size (by repeat with_reducible first | exact HB.out | refine bC ?_ | refine below_set ?_ GE168.out | refine below_set ?_ GE169.out | refine below_set ?_ GE173.out)) : w.heap.size ≤ gb172)); have n6_ := n5_; have n7_ := Aside0.mk ((by rw [hg]; exact Nat.ne_of_lt (blk_lt (bI BK168.out)) : gb168 ≠ gb172)); have n8_ : Aside0 (gb172 ≠ gb168) := ⟨Ne.symm n7_.out⟩; have n9_ := Aside0.mk ((by rw [hg]; exact Nat.ne_of_lt (blk_lt (bI BK169.out)) : gb169 ≠ gb172)); have n10_ : Aside0 (gb172 ≠ gb169) := ⟨Ne.symm n9_.out⟩; have n11_ := Aside0.mk ((by rw [hg]; exact Nat.ne_of_lt (blk_lt (bI BK173.out)) : gb173 ≠ gb172)); have n12_ : Aside0 (gb172 ≠ gb173) := ⟨Ne.symm n11_.out⟩; clear BK168 BK169 BK173 HB; have BK168 := n0_; have BK169 := n1_; have BK173 := n2_; have HB := n3_; have BK172 := n4_; have GW172 := n5_; have GE172 := n6_; have NB168_172 := n7_; have NB172_168 := n8_; have NB169_172 := n9_; have NB172_169 := n10_; have NB173_172 := n11_; have NB172_173 := n12_; clear n0_ n1_ n2_ n3_ n4_ n5_ n6_ n7_ n8_ n9_ n10_ n11_ n12_ hb hbox hg; refine hK.out _ _ ⟨((HB.out.cell (World.block_lt_of_cell? w _ hw170_0)).trans hw170_0), ((HB.out.cell (World.block_lt_of_cell? w _ hw170_1)).trans hw170_1), ((HB.out.cell (World.block_lt_of_cell? w _ hw171_0)).trans hw171_0), ((HB.out.cell (World.block_lt_of_cell? w _ hw171_1)).trans hw171_1)⟩ (fun hHeld => ?_); clear hK K; refine norm_ (a' := ?_) ?_ ?_; rotate_left
                       ·show Act.put _ (some 8) _ = _; simp only [Act.put, List.setIfInBounds_toArray, List.set_cons_zero, List.set_cons_succ, i64_w, i32_w]; rfl
                       exact norm_ (by simp only [putAll, Act.put, List.setIfInBounds_toArray, List.set_cons_zero, List.set_cons_succ]) (hCont (gb172, gb173) _ ⟨hHeld, (bI BK168.out), (bI BK169.out), (bI BK172.out), (bI BK173.out), GW172.out, GE172.out, NB168_172.out, NB172_168.out, NB169_172.out, NB172_169.out, NB173_172.out, NB172_173.out, GW173.out, GE173.out, NB168_173.out, NB173_168.out, NB169_173.out, NB173_169.out, (by repeat with_reducible first | exact HB.out | refine bC ?_ | refine below_set ?_ GE168.out | refine below_set ?_ GE169.out | refine below_set ?_ GE173.out | refine below_set ?_ GE172.out)⟩)
                     rintro ⟨gb172, gb173⟩ w33 ⟨hS_, h0_, h1_, h2_, h3_, h4_, h5_, h6_, h7_, h8_, h9_, h10_, h11_, h12_, h13_, h14_, h15_, h16_, h17_, h18_⟩; clear BK168 BK169 HB; have BK168 := Aside0.mk h0_; have BK169 := Aside0.mk h1_; have BK172 := Aside0.mk h2_; have BK173 := Aside0.mk h3_; have GW172 := Aside0.mk h4_; have GE172 := Aside0.mk h5_; have NB168_172 := Aside0.mk h6_; have NB172_168 := Aside0.mk h7_; have NB169_172 := Aside0.mk h8_; have NB172_169 := Aside0.mk h9_; have NB173_172 := Aside0.mk h10_; have NB172_173 := Aside0.mk h11_; have GW173 := Aside0.mk h12_; have GE173 := Aside0.mk h13_; have NB168_173 := Aside0.mk h14_; have NB173_168 := Aside0.mk h15_; have NB169_173 := Aside0.mk h16_; have NB173_169 := Aside0.mk h17_; have HB := Aside0.mk h18_; clear h0_ h1_ h2_ h3_ h4_ h5_ h6_ h7_ h8_ h9_ h10_ h11_ h12_ h13_ h14_ h15_ h16_ h17_ h18_; have hHeld : w33.cell? (ad166.add ((x36_3).toNat * 2)) = some (.int .i64 ((rd_T30 l0 x36_3).f0)) ∧ w33.cell? ⟨(ad166.add ((x36_3).toNat * 2)).block, (ad166.add ((x36_3).toNat * 2)).off + 1, none⟩ = some (.int .i64 ((rd_T30 l0 x36_3).f1)) ∧ w33.cell? (ad166.add (((ji26)).toNat * 2)) = some (.int .i64 ((rd_T30 l0 (ji26)).f0)) ∧ w33.cell? ⟨(ad166.add (((ji26)).toNat * 2)).block, (ad166.add (((ji26)).toNat * 2)).off + 1, none⟩ = some (.int .i64 ((rd_T30 l0 (ji26)).f1)) := hS_; refine norm_ (a' := ?_) ?_ ?_; rotate_left
                     ·simp only [putAll, Act.put, List.setIfInBounds_toArray, List.set_cons_zero, List.set_cons_succ]; rfl
                     refine one_ (i := 13) (N := none) #[T, T, T, T, T, T, T, T, T, T, T, T, T, T, F] rfl rfl (one_of HT_.out (by kernel_rfl)) (by decide) (fun K hK => ?_); have hs34 : w33.cell? ⟨gb172, 0, none⟩ = some (.int .i64 0) := (blk_cell BK172.out 0).trans rfl; have hfs34 := blk_frozen BK172.out 0; have hns34_0 := NB168_172.out; have hns34_1 := NB169_172.out; have hns34_3 := NB173_172.out; have hms34_0 := NB172_168.out; have hms34_1 := NB172_169.out; have hms34_3 := NB172_173.out; have hs35 : w33.cell? ⟨gb172, 1, none⟩ = some (.int .i64 0) := (blk_cell BK172.out 1).trans rfl; have hfs35 := blk_frozen BK172.out 1; have hns35_0 := NB168_172.out; have hns35_1 := NB169_172.out; have hns35_3 := NB173_172.out; have hms35_0 := NB172_168.out; have hms35_1 := NB172_169.out; have hms35_3 := NB172_173.out; refine skip_ (w1 := ?_) (by rfl) rfl ?_ ?_; rotate_left
                     ·go_simp
                      rfl
                     refine hK.out _ _ ⟨((cell_far (p := ⟨gb172, _, none⟩) (far_ne hw170_0 GW172.out) _).trans (((cell_far (p := ⟨gb172, _, none⟩) (far_ne hw170_0 GW172.out) _).trans (hHeld.1)))), ((cell_far (p := ⟨gb172, _, none⟩) (far_ne hw170_1 GW172.out) _).trans (((cell_far (p := ⟨gb172, _, none⟩) (far_ne hw170_1 GW172.out) _).trans (hHeld.2.1)))), ((cell_far (p := ⟨gb172, _, none⟩) (far_ne hw171_0 GW172.out) _).trans (((cell_far (p := ⟨gb172, _, none⟩) (far_ne hw171_0 GW172.out) _).trans (hHeld.2.2.1)))), ((cell_far (p := ⟨gb172, _, none⟩) (far_ne hw171_1 GW172.out) _).trans (((cell_far (p := ⟨gb172, _, none⟩) (far_ne hw171_1 GW172.out) _).trans (hHeld.2.2.2))))⟩ (fun hHeld => ?_); clear hK K; refine one_ (i := 14) (N := none) #[T, T, T, T, T, T, T, T, T, T, T, T, T, T, T] rfl rfl (one_of HT_.out (by kernel_rfl)) (by decide) (fun K hK => ?_); have hs36 : w33.cell? ⟨gb173, 0, none⟩ = some (.int .i64 0) := (blk_cell BK173.out 0).trans rfl; have hfs36 := blk_frozen BK173.out 0; have hns36_0 := NB168_173.out; have hns36_1 := NB169_173.out; have hns36_2 := NB172_173.out; have hms36_0 := NB173_168.out; have hms36_1 := NB173_169.out; have hms36_2 := NB173_172.out; have hs37 : w33.cell? ⟨gb173, 1, none⟩ = some (.int .i64 0) := (blk_cell BK173.out 1).trans rfl; have hfs37 := blk_frozen BK173.out 1; have hns37_0 := NB168_173.out; have hns37_1 := NB169_173.out; have hns37_2 := NB172_173.out; have hms37_0 := NB173_168.out; have hms37_1 := NB173_169.out; have hms37_2 := NB173_172.out; refine skip_ (w1 := ?_) (by rfl) rfl ?_ ?_; rotate_left
                     ·go_simp
                      rfl
                     refine hK.out _ _ ⟨((cell_far (p := ⟨gb173, _, none⟩) (far_ne hw170_0 GW173.out) _).trans (((cell_far (p := ⟨gb173, _, none⟩) (far_ne hw170_0 GW173.out) _).trans (hHeld.1)))), ((cell_far (p := ⟨gb173, _, none⟩) (far_ne hw170_1 GW173.out) _).trans (((cell_far (p := ⟨gb173, _, none⟩) (far_ne hw170_1 GW173.out) _).trans (hHeld.2.1)))), ((cell_far (p := ⟨gb173, _, none⟩) (far_ne hw171_0 GW173.out) _).trans (((cell_far (p := ⟨gb173, _, none⟩) (far_ne hw171_0 GW173.out) _).trans (hHeld.2.2.1)))), ((cell_far (p := ⟨gb173, _, none⟩) (far_ne hw171_1 GW173.out) _).trans (((cell_far (p := ⟨gb173, _, none⟩) (far_ne hw171_1 GW173.out) _).trans (hHeld.2.2.2))))⟩ (fun hHeld => ?_); clear hK K; refine done_ (done_of HT_.out (by kernel_rfl)) ?_; have hnb38 := NB168_169.out; have hnc38 := NB169_168.out; have hnb39 := NB168_172.out; have hnc39 := NB172_168.out; have hnb40 := NB168_173.out; have hnc40 := NB173_168.out; have hcz41_0 : w33.cell? ⟨gb168, 0, none⟩ = some (.int .i64 ((rd_T30 l0 x21_2).f0)) := (blk_cell BK168.out 0).trans rfl; have hcz41_1 : w33.cell? ⟨gb168, 1, none⟩ = some (.int .i64 ((rd_T30 l0 x21_2).f1)) := (blk_cell BK168.out 1).trans rfl; have hfz41_0 := blk_frozen BK168.out 0; have hfz41_1 := blk_frozen BK168.out 1; have hnb42 := NB172_169.out; have hnc42 := NB169_172.out; have hnb43 := NB172_173.out; have hnc43 := NB173_172.out; have hcz44_0 : w33.cell? ⟨gb172, 0, none⟩ = some (.int .i64 0) := (blk_cell BK172.out 0).trans rfl; have hcz44_1 : w33.cell? ⟨gb172, 1, none⟩ = some (.int .i64 0) := (blk_cell BK172.out 1).trans rfl; have hfz44_0 := blk_frozen BK172.out 0; have hfz44_1 := blk_frozen BK172.out 1
                     try go_wp2
                     go_ret
                     exact ⟨by first | rfl | (simp [errW_none, errW_some] <;> rfl) | (simp only [← hji11, ← hji26]; first | rfl | (simp [errW_none, errW_some] <;> rfl)) | (simp [*, errW_none, errW_some] <;> rfl), by repeat with_reducible first | exact HB.out | refine bC ?_ | refine below_set ?_ GE168.out | refine below_set ?_ GE169.out | refine below_set ?_ GE172.out | refine below_set ?_ GE173.out⟩
                    ·rw [if_neg c29] at H
                     have c29b0 : (((rd_T30 l0 x21_2).f0) == ((rd_T30 l0 x36_3).f0) && (((rd_T30 l0 x21_2).f1) == ((rd_T30 l0 x36_3).f1))) = false := by simpa using c29
                     (try (have c29b1 : decide (((rd_T30 l0 x21_2).f0) = ((rd_T30 l0 x36_3).f0) && (((rd_T30 l0 x21_2).f1) == ((rd_T30 l0 x36_3).f1))) = false := by simpa using c29)); (try (have c29b2 : (((rd_T30 l0 x21_2).f0) == ((rd_T30 l0 x36_3).f0) && (((rd_T30 l0 x21_2).f1) == ((rd_T30 l0 x36_3).f1))) = false := by simpa using c29)); (try (have c29b3 : ¬ (((rd_T30 l0 x21_2).f0) = ((rd_T30 l0 x36_3).f0) && (((rd_T30 l0 x21_2).f1) == ((rd_T30 l0 x36_3).f1))) := by simpa using c29)); clear c29; have HC45 := Aside0.mk H; clear H
                     try go_wp2
                     have n0_ := Aside0.mk (blk_drew BK168.out); have n1_ := Aside0.mk (blk_drew BK169.out); have n2_ := Aside0.mk (below_drew1 HB.out); clear BK168 BK169 HB; have BK168 := n0_; have BK169 := n1_; have HB := n2_; clear n0_ n1_ n2_; have p170 : 0 ≤ (x36_3 : Int) := of_decide_eq_true (by first | (with_reducible assumption) | assumption); have q170 : x36_3 < (l0.length : Int) := of_decide_eq_true (by first | (with_reducible assumption) | assumption); obtain ⟨ad170, e170, hx170_0, hx170_1⟩ := at_T30 HR0.out x36_3 p170 q170; have hw170_1 := hx170_1; have hw170_0 := hx170_0; obtain rfl : ad166 = ad170 := (by injection e170); replace hx170_0 := (HB.out.cell (World.block_lt_of_cell? w _ hx170_0)).trans hx170_0; replace hx170_1 := (HB.out.cell (World.block_lt_of_cell? w _ hx170_1)).trans hx170_1; replace p170 := eq_true p170; replace q170 := eq_true q170; have p171 : 0 ≤ ((ji26) : Int) := of_decide_eq_true (by first | (with_reducible assumption) | assumption); have q171 : (ji26) < (l0.length : Int) := of_decide_eq_true (by first | (with_reducible assumption) | assumption); obtain ⟨ad171, e171, hx171_0, hx171_1⟩ := at_T30 HR0.out (ji26) p171 q171; have hw171_1 := hx171_1; have hw171_0 := hx171_0; obtain rfl : ad166 = ad171 := (by injection e171); replace hx171_0 := (HB.out.cell (World.block_lt_of_cell? w _ hx171_0)).trans hx171_0; replace hx171_1 := (HB.out.cell (World.block_lt_of_cell? w _ hx171_1)).trans hx171_1; replace p171 := eq_true p171; replace q171 := eq_true q171; refine start_ (n := 15) (S := fun w' => w'.cell? (ad166.add ((x36_3).toNat * 2)) = some (.int .i64 ((rd_T30 l0 x36_3).f0)) ∧ w'.cell? ⟨(ad166.add ((x36_3).toNat * 2)).block, (ad166.add ((x36_3).toNat * 2)).off + 1, none⟩ = some (.int .i64 ((rd_T30 l0 x36_3).f1)) ∧ w'.cell? (ad166.add (((ji26)).toNat * 2)) = some (.int .i64 ((rd_T30 l0 (ji26)).f0)) ∧ w'.cell? ⟨(ad166.add (((ji26)).toNat * 2)).block, (ad166.add (((ji26)).toNat * 2)).off + 1, none⟩ = some (.int .i64 ((rd_T30 l0 (ji26)).f1))) (ds := []) #[F, F, F, F, F, F, F, F, F, F, F, F, F, F, F] (by kernel_rfl) rfl rfl ⟨((HB.out.cell (World.block_lt_of_cell? w _ hw170_0)).trans hw170_0), ((HB.out.cell (World.block_lt_of_cell? w _ hw170_1)).trans hw170_1), ((HB.out.cell (World.block_lt_of_cell? w _ hw171_0)).trans hw171_0), ((HB.out.cell (World.block_lt_of_cell? w _ hw171_1)).trans hw171_1)⟩ (fun hHeld => ?_); refine with_tabW poly_Simple.tab11 poly_Simple.bits11 (fun HT_ HW_ => ?_); generalize wr.drew = w46 at BK168 BK169 HB hx170_0 hx170_1 hx171_0 hx171_1 hHeld ⊢
                     refine pure_ (i := 0) (N := some 39) (v := ?_) (a' := ?_) #[T, F, F, F, F, F, F, F, F, F, F, F, F, F, F] rfl rfl (any_of HT_.out (by kernel_rfl)) (fun _ _ _ h => h) (Or.inl ⟨by rfl, ?_⟩) ?_ ?_; rotate_left
                     ·intro w'; go_simp; with_reducible rfl
                     rotate_left
                     ·simp only [Act.put, List.setIfInBounds_toArray, List.set_cons_zero, List.set_cons_succ, i64_w, i32_w]; rfl
                     refine pure_ (i := 1) (N := some 40) (v := ?_) (a' := ?_) #[T, T, F, F, F, F, F, F, F, F, F, F, F, F, F] rfl rfl (any_of HT_.out (by kernel_rfl)) (fun _ _ _ h => h) (Or.inl ⟨by rfl, ?_⟩) ?_ ?_; rotate_left
                     ·intro w'; go_simp; with_reducible rfl
                     rotate_left
                     ·simp only [Act.put, List.setIfInBounds_toArray, List.set_cons_zero, List.set_cons_succ, i64_w, i32_w]; rfl
                     refine pure_ (i := 2) (N := some 41) (v := ?_) (a' := ?_) #[T, T, T, F, F, F, F, F, F, F, F, F, F, F, F] rfl rfl (any_of HT_.out (by kernel_rfl)) (fun _ _ _ h => h) (Or.inl ⟨by rfl, ?_⟩) ?_ ?_; rotate_left
                     ·intro w'; go_simp; with_reducible rfl
                     rotate_left
                     ·simp only [Act.put, List.setIfInBounds_toArray, List.set_cons_zero, List.set_cons_succ, i64_w, i32_w]; rfl
                     refine pure_ (i := 4) (N := some 43) (v := ?_) (a' := ?_) #[T, T, T, F, T, F, F, F, F, F, F, F, F, F, F] rfl rfl (any_of HT_.out (by kernel_rfl)) (fun _ _ _ h => h) (Or.inl ⟨by rfl, ?_⟩) ?_ ?_; rotate_left
                     ·intro w'; go_simp; with_reducible rfl
                     rotate_left
                     ·simp only [Act.put, List.setIfInBounds_toArray, List.set_cons_zero, List.set_cons_succ, i64_w, i32_w]; rfl
                     refine pure_ (i := 5) (N := some 44) (v := ?_) (a' := ?_) #[T, T, T, F, T, T, F, F, F, F, F, F, F, F, F] rfl rfl (any_of HT_.out (by kernel_rfl)) (fun _ _ _ h => h) (Or.inl ⟨by rfl, ?_⟩) ?_ ?_; rotate_left
                     ·intro w'; go_simp; with_reducible rfl
                     rotate_left
                     ·simp only [Act.put, List.setIfInBounds_toArray, List.set_cons_zero, List.set_cons_succ, i64_w, i32_w]; rfl
                     refine pure_ (i := 6) (N := some 45) (v := ?_) (a' := ?_) #[T, T, T, F, T, T, T, F, F, F, F, F, F, F, F] rfl rfl (any_of HT_.out (by kernel_rfl)) (fun _ _ _ h => h) (Or.inl ⟨by rfl, ?_⟩) ?_ ?_; rotate_left
                     ·intro w'; go_simp; with_reducible rfl
                     rotate_left
                     ·simp only [Act.put, List.setIfInBounds_toArray, List.set_cons_zero, List.set_cons_succ, i64_w, i32_w]; rfl
                     refine pure_ (i := 7) (N := some 46) (v := ?_) (a' := ?_) #[T, T, T, F, T, T, T, T, F, F, F, F, F, F, F] rfl rfl (any_of HT_.out (by kernel_rfl)) (fun _ _ _ h => h) (Or.inl ⟨by rfl, ?_⟩) ?_ ?_; rotate_left
                     ·intro w'; go_simp; with_reducible rfl
                     rotate_left
                     ·simp only [Act.put, List.setIfInBounds_toArray, List.set_cons_zero, List.set_cons_succ, i64_w, i32_w]; rfl
                     refine pure_ (i := 8) (N := some 47) (v := ?_) (a' := ?_) #[T, T, T, F, T, T, T, T, T, F, F, F, F, F, F] rfl rfl (any_of HT_.out (by kernel_rfl)) (fun _ _ _ h => h) (Or.inl ⟨by rfl, ?_⟩) ?_ ?_; rotate_left
                     ·intro w'; go_simp; with_reducible rfl
                     rotate_left
                     ·simp only [Act.put, List.setIfInBounds_toArray, List.set_cons_zero, List.set_cons_succ, i64_w, i32_w]; rfl
                     refine pure_ (i := 9) (N := some 48) (v := ?_) (a' := ?_) #[T, T, T, F, T, T, T, T, T, T, F, F, F, F, F] rfl rfl (any_of HT_.out (by kernel_rfl)) (fun _ _ _ h => h) (Or.inl ⟨by rfl, ?_⟩) ?_ ?_; rotate_left
                     ·intro w'; go_simp; with_reducible rfl
                     rotate_left
                     ·simp only [Act.put, List.setIfInBounds_toArray, List.set_cons_zero, List.set_cons_succ, i64_w, i32_w]; rfl
                     refine take_ (i := 3) (N := some 42) (v := ?_) (a' := ?_) #[T, T, T, T, T, T, T, T, T, T, F, F, F, F, F] rfl rfl (take_ofW HT_.out HW_.out (by kernel_rfl)) (fun _ _ _ h => h) (Or.inl ⟨by rfl, ?_⟩) hHeld ?_ ?_; rotate_left
                     ·rintro w' ⟨s0, s1, s2, s3⟩; go_simp; with_reducible rfl
                     rotate_left
                     ·simp only [Act.put, List.setIfInBounds_toArray, List.set_cons_zero, List.set_cons_succ, i64_w, i32_w]; rfl
                     refine take_ (i := 10) (N := some 49) (v := ?_) (a' := ?_) #[T, T, T, T, T, T, T, T, T, T, T, F, F, F, F] rfl rfl (take_ofW HT_.out HW_.out (by kernel_rfl)) (fun _ _ _ h => h) (Or.inl ⟨by rfl, ?_⟩) hHeld ?_ ?_; rotate_left
                     ·rintro w' ⟨s0, s1, s2, s3⟩; go_simp; with_reducible rfl
                     rotate_left
                     ·simp only [Act.put, List.setIfInBounds_toArray, List.set_cons_zero, List.set_cons_succ, i64_w, i32_w]; rfl
                     refine join_ (σ := Nat × Nat) 2 #[T, T, T, T, T, T, T, T, T, T, T, T, T, F, F] (fun s_ => [(8, .pointer (some ⟨s_.1, 0, none⟩)), (9, .pointer (some ⟨s_.2, 0, none⟩))]) (fun s_ w' => (w'.cell? (ad166.add ((x36_3).toNat * 2)) = some (.int .i64 ((rd_T30 l0 x36_3).f0)) ∧ w'.cell? ⟨(ad166.add ((x36_3).toNat * 2)).block, (ad166.add ((x36_3).toNat * 2)).off + 1, none⟩ = some (.int .i64 ((rd_T30 l0 x36_3).f1)) ∧ w'.cell? (ad166.add (((ji26)).toNat * 2)) = some (.int .i64 ((rd_T30 l0 (ji26)).f0)) ∧ w'.cell? ⟨(ad166.add (((ji26)).toNat * 2)).block, (ad166.add (((ji26)).toNat * 2)).off + 1, none⟩ = some (.int .i64 ((rd_T30 l0 (ji26)).f1))) ∧ (w'.heap[gb168]? = some (.cells #[.int .i64 ((rd_T30 l0 x21_2).f0), .int .i64 ((rd_T30 l0 x21_2).f1)] 30 (0, 0))) ∧ (w'.heap[gb169]? = some (.cells #[.int .i64 ((rd_T30 l0 (ji11)).f0), .int .i64 ((rd_T30 l0 (ji11)).f1)] 30 (0, 0))) ∧ (w'.heap[s_.1]? = some (.cells #[.int .i64 0, .int .i64 0] 30 (0, 0))) ∧ (w'.heap[s_.2]? = some (.cells #[.int .i64 0, .int .i64 0] 30 (0, 0))) ∧ (w.heap.size ≤ s_.1) ∧ (w.heap.size ≤ s_.1) ∧ (gb168 ≠ s_.1) ∧ (s_.1 ≠ gb168) ∧ (gb169 ≠ s_.1) ∧ (s_.1 ≠ gb169) ∧ (s_.2 ≠ s_.1) ∧ (s_.1 ≠ s_.2) ∧ (w.heap.size ≤ s_.2) ∧ (w.heap.size ≤ s_.2) ∧ (gb168 ≠ s_.2) ∧ (s_.2 ≠ gb168) ∧ (gb169 ≠ s_.2) ∧ (s_.2 ≠ gb169) ∧ (Below w.heap.size w w')) ?_ ?_; rotate_left
                     ·intro hCont; refine two_ (i := 11) (j := 12) (Ni := some 8) (Nj := some 9) #[T, T, T, T, T, T, T, T, T, T, T, T, F, F, F] #[T, T, T, T, T, T, T, T, T, T, T, F, T, F, F] rfl rfl rfl rfl (two_of HT_.out (by kernel_rfl)) (by decide) (by decide) (fun K hK => ?_) (fun K hK => ?_)
                      ·skip; refine box_step ?hg (N := 8) ?hd (cs := #[.int .i64 0, .int .i64 0]) (t := 30) ?hr ?_; (case hd => rfl); (case hg => rfl); (case hr => first | (go_simp; done) | (go_simp; rfl)); intro gb172 hg w47 hbox hb; have n0_ := Aside0.mk (blk_below (bI BK168.out) hb); have n1_ := Aside0.mk (blk_below (bI BK169.out) hb); have n2_ := Aside0.mk (below_step (by repeat with_reducible first | exact HB.out | refine bC ?_ | refine below_set ?_ GE168.out | refine below_set ?_ GE169.out) hb); have n3_ := Aside0.mk (hbox); have n4_ := Aside0.mk ((by rw [hg]; exact (below_size (by repeat with_reducible first | exact HB.out | refine bC ?_ | refine below_set ?_ GE168.out | refine below_set ?_ GE169.out)) : w.heap.size ≤ gb172)); have n5_ := n4_; have n6_ := Aside0.mk ((by rw [hg]; exact Nat.ne_of_lt (blk_lt (bI BK168.out)) : gb168 ≠ gb172)); have n7_ : Aside0 (gb172 ≠ gb168) := ⟨Ne.symm n6_.out⟩; have n8_ := Aside0.mk ((by rw [hg]; exact Nat.ne_of_lt (blk_lt (bI BK169.out)) : gb169 ≠ gb172)); have n9_ : Aside0 (gb172 ≠ gb169) := ⟨Ne.symm n8_.out⟩; clear BK168 BK169 HB; have BK168 := n0_; have BK169 := n1_; have HB := n2_; have BK172 := n3_; have GW172 := n4_; have GE172 := n5_; have NB168_172 := n6_; have NB172_168 := n7_; have NB169_172 := n8_; have NB172_169 := n9_; clear n0_ n1_ n2_ n3_ n4_ n5_ n6_ n7_ n8_ n9_ hb hbox hg; refine hK.out _ _ ⟨((HB.out.cell (World.block_lt_of_cell? w _ hw170_0)).trans hw170_0), ((HB.out.cell (World.block_lt_of_cell? w _ hw170_1)).trans hw170_1), ((HB.out.cell (World.block_lt_of_cell? w _ hw171_0)).trans hw171_0), ((HB.out.cell (World.block_lt_of_cell? w _ hw171_1)).trans hw171_1)⟩ (fun hHeld => ?_); clear hK K; refine norm_ (a' := ?_) ?_ ?_; rotate_left
                       ·show Act.put _ (some 8) _ = _; simp only [Act.put, List.setIfInBounds_toArray, List.set_cons_zero, List.set_cons_succ, i64_w, i32_w]; rfl
                       refine one_ (i := 12) (N := some 9) #[T, T, T, T, T, T, T, T, T, T, T, T, T, F, F] rfl rfl (one_of HT_.out (by kernel_rfl)) (by decide) (fun K hK => ?_); refine box_step ?hg (N := 9) ?hd (cs := #[.int .i64 0, .int .i64 0]) (t := 30) ?hr ?_; (case hd => rfl); (case hg => rfl); (case hr => first | (go_simp; done) | (go_simp; rfl)); intro gb173 hg w48 hbox hb; have n0_ := Aside0.mk (blk_below (bI BK168.out) hb); have n1_ := Aside0.mk (blk_below (bI BK169.out) hb); have n2_ := Aside0.mk (blk_below (bI BK172.out) hb); have n3_ := Aside0.mk (below_step (by repeat with_reducible first | exact HB.out | refine bC ?_ | refine below_set ?_ GE168.out | refine below_set ?_ GE169.out | refine below_set ?_ GE172.out) hb); have n4_ := Aside0.mk (hbox); have n5_ := Aside0.mk ((by rw [hg]; exact (below_size (by repeat with_reducible first | exact HB.out | refine bC ?_ | refine below_set ?_ GE168.out | refine below_set ?_ GE169.out | refine below_set ?_ GE172.out)) : w.heap.size ≤ gb173)); have n6_ := n5_; have n7_ := Aside0.mk ((by rw [hg]; exact Nat.ne_of_lt (blk_lt (bI BK168.out)) : gb168 ≠ gb173)); have n8_ : Aside0 (gb173 ≠ gb168) := ⟨Ne.symm n7_.out⟩; have n9_ := Aside0.mk ((by rw [hg]; exact Nat.ne_of_lt (blk_lt (bI BK169.out)) : gb169 ≠ gb173)); have n10_ : Aside0 (gb173 ≠ gb169) := ⟨Ne.symm n9_.out⟩; have n11_ := Aside0.mk ((by rw [hg]; exact Nat.ne_of_lt (blk_lt (bI BK172.out)) : gb172 ≠ gb173)); have n12_ : Aside0 (gb173 ≠ gb172) := ⟨Ne.symm n11_.out⟩; clear BK168 BK169 BK172 HB; have BK168 := n0_; have BK169 := n1_; have BK172 := n2_; have HB := n3_; have BK173 := n4_; have GW173 := n5_; have GE173 := n6_; have NB168_173 := n7_; have NB173_168 := n8_; have NB169_173 := n9_; have NB173_169 := n10_; have NB172_173 := n11_; have NB173_172 := n12_; clear n0_ n1_ n2_ n3_ n4_ n5_ n6_ n7_ n8_ n9_ n10_ n11_ n12_ hb hbox hg; refine hK.out _ _ ⟨((HB.out.cell (World.block_lt_of_cell? w _ hw170_0)).trans hw170_0), ((HB.out.cell (World.block_lt_of_cell? w _ hw170_1)).trans hw170_1), ((HB.out.cell (World.block_lt_of_cell? w _ hw171_0)).trans hw171_0), ((HB.out.cell (World.block_lt_of_cell? w _ hw171_1)).trans hw171_1)⟩ (fun hHeld => ?_); clear hK K; refine norm_ (a' := ?_) ?_ ?_; rotate_left
                       ·show Act.put _ (some 9) _ = _; simp only [Act.put, List.setIfInBounds_toArray, List.set_cons_zero, List.set_cons_succ, i64_w, i32_w]; rfl
                       exact norm_ (by simp only [putAll, Act.put, List.setIfInBounds_toArray, List.set_cons_zero, List.set_cons_succ]) (hCont (gb172, gb173) _ ⟨hHeld, (bI BK168.out), (bI BK169.out), (bI BK172.out), (bI BK173.out), GW172.out, GE172.out, NB168_172.out, NB172_168.out, NB169_172.out, NB172_169.out, NB173_172.out, NB172_173.out, GW173.out, GE173.out, NB168_173.out, NB173_168.out, NB169_173.out, NB173_169.out, (by repeat with_reducible first | exact HB.out | refine bC ?_ | refine below_set ?_ GE168.out | refine below_set ?_ GE169.out | refine below_set ?_ GE172.out | refine below_set ?_ GE173.out)⟩)
                      ·skip; refine box_step ?hg (N := 9) ?hd (cs := #[.int .i64 0, .int .i64 0]) (t := 30) ?hr ?_; (case hd => rfl); (case hg => rfl); (case hr => first | (go_simp; done) | (go_simp; rfl)); intro gb173 hg w47 hbox hb; have n0_ := Aside0.mk (blk_below (bI BK168.out) hb); have n1_ := Aside0.mk (blk_below (bI BK169.out) hb); have n2_ := Aside0.mk (below_step (by repeat with_reducible first | exact HB.out | refine bC ?_ | refine below_set ?_ GE168.out | refine below_set ?_ GE169.out) hb); have n3_ := Aside0.mk (hbox); have n4_ := Aside0.mk ((by rw [hg]; exact (below_size (by repeat with_reducible first | exact HB.out | refine bC ?_ | refine below_set ?_ GE168.out | refine below_set ?_ GE169.out)) : w.heap.size ≤ gb173)); have n5_ := n4_; have n6_ := Aside0.mk ((by rw [hg]; exact Nat.ne_of_lt (blk_lt (bI BK168.out)) : gb168 ≠ gb173)); have n7_ : Aside0 (gb173 ≠ gb168) := ⟨Ne.symm n6_.out⟩; have n8_ := Aside0.mk ((by rw [hg]; exact Nat.ne_of_lt (blk_lt (bI BK169.out)) : gb169 ≠ gb173)); have n9_ : Aside0 (gb173 ≠ gb169) := ⟨Ne.symm n8_.out⟩; clear BK168 BK169 HB; have BK168 := n0_; have BK169 := n1_; have HB := n2_; have BK173 := n3_; have GW173 := n4_; have GE173 := n5_; have NB168_173 := n6_; have NB173_168 := n7_; have NB169_173 := n8_; have NB173_169 := n9_; clear n0_ n1_ n2_ n3_ n4_ n5_ n6_ n7_ n8_ n9_ hb hbox hg; refine hK.out _ _ ⟨((HB.out.cell (World.block_lt_of_cell? w _ hw170_0)).trans hw170_0), ((HB.out.cell (World.block_lt_of_cell? w _ hw170_1)).trans hw170_1), ((HB.out.cell (World.block_lt_of_cell? w _ hw171_0)).trans hw171_0), ((HB.out.cell (World.block_lt_of_cell? w _ hw171_1)).trans hw171_1)⟩ (fun hHeld => ?_); clear hK K; refine norm_ (a' := ?_) ?_ ?_; rotate_left
                       ·show Act.put _ (some 9) _ = _; simp only [Act.put, List.setIfInBounds_toArray, List.set_cons_zero, List.set_cons_succ, i64_w, i32_w]; rfl
                       refine one_ (i := 11) (N := some 8) #[T, T, T, T, T, T, T, T, T, T, T, T, T, F, F] rfl rfl (one_of HT_.out (by kernel_rfl)) (by decide) (fun K hK => ?_); refine box_step ?hg (N := 8) ?hd (cs := #[.int .i64 0, .int .i64 0]) (t := 30) ?hr ?_; (case hd => rfl); (case hg => rfl); (case hr => first | (go_simp; done) | (go_simp; rfl)); intro gb172 hg w48 hbox hb; have n0_ := Aside0.mk (blk_below (bI BK168.out) hb); have n1_ := Aside0.mk (blk_below (bI BK169.out) hb); have n2_ := Aside0.mk (blk_below (bI BK173.out) hb); have n3_ := Aside0.mk (below_step (by repeat with_reducible first | exact HB.out | refine bC ?_ | refine below_set ?_ GE168.out | refine below_set ?_ GE169.out | refine below_set ?_ GE173.out) hb); have n4_ := Aside0.mk (hbox); have n5_ := Aside0.mk ((by rw [hg]; exact (below_size (by repeat with_reducible first | exact HB.out | refine bC ?_ | refine below_set ?_ GE168.out | refine below_set ?_ GE169.out | refine below_set ?_ GE173.out)) : w.heap.size ≤ gb172)); have n6_ := n5_; have n7_ := Aside0.mk ((by rw [hg]; exact Nat.ne_of_lt (blk_lt (bI BK168.out)) : gb168 ≠ gb172)); have n8_ : Aside0 (gb172 ≠ gb168) := ⟨Ne.symm n7_.out⟩; have n9_ := Aside0.mk ((by rw [hg]; exact Nat.ne_of_lt (blk_lt (bI BK169.out)) : gb169 ≠ gb172)); have n10_ : Aside0 (gb172 ≠ gb169) := ⟨Ne.symm n9_.out⟩; have n11_ := Aside0.mk ((by rw [hg]; exact Nat.ne_of_lt (blk_lt (bI BK173.out)) : gb173 ≠ gb172)); have n12_ : Aside0 (gb172 ≠ gb173) := ⟨Ne.symm n11_.out⟩; clear BK168 BK169 BK173 HB; have BK168 := n0_; have BK169 := n1_; have BK173 := n2_; have HB := n3_; have BK172 := n4_; have GW172 := n5_; have GE172 := n6_; have NB168_172 := n7_; have NB172_168 := n8_; have NB169_172 := n9_; have NB172_169 := n10_; have NB173_172 := n11_; have NB172_173 := n12_; clear n0_ n1_ n2_ n3_ n4_ n5_ n6_ n7_ n8_ n9_ n10_ n11_ n12_ hb hbox hg; refine hK.out _ _ ⟨((HB.out.cell (World.block_lt_of_cell? w _ hw170_0)).trans hw170_0), ((HB.out.cell (World.block_lt_of_cell? w _ hw170_1)).trans hw170_1), ((HB.out.cell (World.block_lt_of_cell? w _ hw171_0)).trans hw171_0), ((HB.out.cell (World.block_lt_of_cell? w _ hw171_1)).trans hw171_1)⟩ (fun hHeld => ?_); clear hK K; refine norm_ (a' := ?_) ?_ ?_; rotate_left
                       ·show Act.put _ (some 8) _ = _; simp only [Act.put, List.setIfInBounds_toArray, List.set_cons_zero, List.set_cons_succ, i64_w, i32_w]; rfl
                       exact norm_ (by simp only [putAll, Act.put, List.setIfInBounds_toArray, List.set_cons_zero, List.set_cons_succ]) (hCont (gb172, gb173) _ ⟨hHeld, (bI BK168.out), (bI BK169.out), (bI BK172.out), (bI BK173.out), GW172.out, GE172.out, NB168_172.out, NB172_168.out, NB169_172.out, NB172_169.out, NB173_172.out, NB172_173.out, GW173.out, GE173.out, NB168_173.out, NB173_168.out, NB169_173.out, NB173_169.out, (by repeat with_reducible first | exact HB.out | refine bC ?_ | refine below_set ?_ GE168.out | refine below_set ?_ GE169.out | refine below_set ?_ GE173.out | refine below_set ?_ GE172.out)⟩)
                     rintro ⟨gb172, gb173⟩ w49 ⟨hS_, h0_, h1_, h2_, h3_, h4_, h5_, h6_, h7_, h8_, h9_, h10_, h11_, h12_, h13_, h14_, h15_, h16_, h17_, h18_⟩; clear BK168 BK169 HB; have BK168 := Aside0.mk h0_; have BK169 := Aside0.mk h1_; have BK172 := Aside0.mk h2_; have BK173 := Aside0.mk h3_; have GW172 := Aside0.mk h4_; have GE172 := Aside0.mk h5_; have NB168_172 := Aside0.mk h6_; have NB172_168 := Aside0.mk h7_; have NB169_172 := Aside0.mk h8_; have NB172_169 := Aside0.mk h9_; have NB173_172 := Aside0.mk h10_; have NB172_173 := Aside0.mk h11_; have GW173 := Aside0.mk h12_; have GE173 := Aside0.mk h13_; have NB168_173 := Aside0.mk h14_; have NB173_168 := Aside0.mk h15_; have NB169_173 := Aside0.mk h16_; have NB173_169 := Aside0.mk h17_; have HB := Aside0.mk h18_; clear h0_ h1_ h2_ h3_ h4_ h5_ h6_ h7_ h8_ h9_ h10_ h11_ h12_ h13_ h14_ h15_ h16_ h17_ h18_; have hHeld : w49.cell? (ad166.add ((x36_3).toNat * 2)) = some (.int .i64 ((rd_T30 l0 x36_3).f0)) ∧ w49.cell? ⟨(ad166.add ((x36_3).toNat * 2)).block, (ad166.add ((x36_3).toNat * 2)).off + 1, none⟩ = some (.int .i64 ((rd_T30 l0 x36_3).f1)) ∧ w49.cell? (ad166.add (((ji26)).toNat * 2)) = some (.int .i64 ((rd_T30 l0 (ji26)).f0)) ∧ w49.cell? ⟨(ad166.add (((ji26)).toNat * 2)).block, (ad166.add (((ji26)).toNat * 2)).off + 1, none⟩ = some (.int .i64 ((rd_T30 l0 (ji26)).f1)) := hS_; refine norm_ (a' := ?_) ?_ ?_; rotate_left
                     ·simp only [putAll, Act.put, List.setIfInBounds_toArray, List.set_cons_zero, List.set_cons_succ]; rfl
                     refine one_ (i := 13) (N := none) #[T, T, T, T, T, T, T, T, T, T, T, T, T, T, F] rfl rfl (one_of HT_.out (by kernel_rfl)) (by decide) (fun K hK => ?_); have hs50 : w49.cell? ⟨gb172, 0, none⟩ = some (.int .i64 0) := (blk_cell BK172.out 0).trans rfl; have hfs50 := blk_frozen BK172.out 0; have hns50_0 := NB168_172.out; have hns50_1 := NB169_172.out; have hns50_3 := NB173_172.out; have hms50_0 := NB172_168.out; have hms50_1 := NB172_169.out; have hms50_3 := NB172_173.out; have hs51 : w49.cell? ⟨gb172, 1, none⟩ = some (.int .i64 0) := (blk_cell BK172.out 1).trans rfl; have hfs51 := blk_frozen BK172.out 1; have hns51_0 := NB168_172.out; have hns51_1 := NB169_172.out; have hns51_3 := NB173_172.out; have hms51_0 := NB172_168.out; have hms51_1 := NB172_169.out; have hms51_3 := NB172_173.out; refine skip_ (w1 := ?_) (by rfl) rfl ?_ ?_; rotate_left
                     ·go_simp
                      rfl
                     refine hK.out _ _ ⟨((cell_far (p := ⟨gb172, _, none⟩) (far_ne hw170_0 GW172.out) _).trans (((cell_far (p := ⟨gb172, _, none⟩) (far_ne hw170_0 GW172.out) _).trans (hHeld.1)))), ((cell_far (p := ⟨gb172, _, none⟩) (far_ne hw170_1 GW172.out) _).trans (((cell_far (p := ⟨gb172, _, none⟩) (far_ne hw170_1 GW172.out) _).trans (hHeld.2.1)))), ((cell_far (p := ⟨gb172, _, none⟩) (far_ne hw171_0 GW172.out) _).trans (((cell_far (p := ⟨gb172, _, none⟩) (far_ne hw171_0 GW172.out) _).trans (hHeld.2.2.1)))), ((cell_far (p := ⟨gb172, _, none⟩) (far_ne hw171_1 GW172.out) _).trans (((cell_far (p := ⟨gb172, _, none⟩) (far_ne hw171_1 GW172.out) _).trans (hHeld.2.2.2))))⟩ (fun hHeld => ?_); clear hK K; refine one_ (i := 14) (N := none) #[T, T, T, T, T, T, T, T, T, T, T, T, T, T, T] rfl rfl (one_of HT_.out (by kernel_rfl)) (by decide) (fun K hK => ?_); have hs52 : w49.cell? ⟨gb173, 0, none⟩ = some (.int .i64 0) := (blk_cell BK173.out 0).trans rfl; have hfs52 := blk_frozen BK173.out 0; have hns52_0 := NB168_173.out; have hns52_1 := NB169_173.out; have hns52_2 := NB172_173.out; have hms52_0 := NB173_168.out; have hms52_1 := NB173_169.out; have hms52_2 := NB173_172.out; have hs53 : w49.cell? ⟨gb173, 1, none⟩ = some (.int .i64 0) := (blk_cell BK173.out 1).trans rfl; have hfs53 := blk_frozen BK173.out 1; have hns53_0 := NB168_173.out; have hns53_1 := NB169_173.out; have hns53_2 := NB172_173.out; have hms53_0 := NB173_168.out; have hms53_1 := NB173_169.out; have hms53_2 := NB173_172.out; refine skip_ (w1 := ?_) (by rfl) rfl ?_ ?_; rotate_left
                     ·go_simp
                      rfl
                     refine hK.out _ _ ⟨((cell_far (p := ⟨gb173, _, none⟩) (far_ne hw170_0 GW173.out) _).trans (((cell_far (p := ⟨gb173, _, none⟩) (far_ne hw170_0 GW173.out) _).trans (hHeld.1)))), ((cell_far (p := ⟨gb173, _, none⟩) (far_ne hw170_1 GW173.out) _).trans (((cell_far (p := ⟨gb173, _, none⟩) (far_ne hw170_1 GW173.out) _).trans (hHeld.2.1)))), ((cell_far (p := ⟨gb173, _, none⟩) (far_ne hw171_0 GW173.out) _).trans (((cell_far (p := ⟨gb173, _, none⟩) (far_ne hw171_0 GW173.out) _).trans (hHeld.2.2.1)))), ((cell_far (p := ⟨gb173, _, none⟩) (far_ne hw171_1 GW173.out) _).trans (((cell_far (p := ⟨gb173, _, none⟩) (far_ne hw171_1 GW173.out) _).trans (hHeld.2.2.2))))⟩ (fun hHeld => ?_); clear hK K; refine done_ (done_of HT_.out (by kernel_rfl)) ?_; have hnb54 := NB168_169.out; have hnc54 := NB169_168.out; have hnb55 := NB168_172.out; have hnc55 := NB172_168.out; have hnb56 := NB168_173.out; have hnc56 := NB173_168.out; have hcz57_0 : w49.cell? ⟨gb168, 0, none⟩ = some (.int .i64 ((rd_T30 l0 x21_2).f0)) := (blk_cell BK168.out 0).trans rfl; have hcz57_1 : w49.cell? ⟨gb168, 1, none⟩ = some (.int .i64 ((rd_T30 l0 x21_2).f1)) := (blk_cell BK168.out 1).trans rfl; have hfz57_0 := blk_frozen BK168.out 0; have hfz57_1 := blk_frozen BK168.out 1; have hnb58 := NB172_169.out; have hnc58 := NB169_172.out; have hnb59 := NB172_173.out; have hnc59 := NB173_172.out; have hcz60_0 : w49.cell? ⟨gb172, 0, none⟩ = some (.int .i64 0) := (blk_cell BK172.out 0).trans rfl; have hcz60_1 : w49.cell? ⟨gb172, 1, none⟩ = some (.int .i64 0) := (blk_cell BK172.out 1).trans rfl; have hfz60_0 := blk_frozen BK172.out 0; have hfz60_1 := blk_frozen BK172.out 1
                     go_upto_region 15 with (fail)
                     go_cut [66] (fun v66 wc => ∃ (kq : Nat) (x66_44 : Bool), v66 = .bool x66_44 ∧ Aside0 (poly_Simple.j3 kq l0 (l0.length : Int) x21_2 0 (l0.length : Int) x21_2 x21_2 x36_3 x66_44 ((rd_T30 l0 x21_2).f0) ((rd_T30 l0 x21_2).f1) ((rd_T30 l0 (ji11)).f0) ((rd_T30 l0 (ji11)).f1) ((rd_T30 l0 x36_3).f0) ((rd_T30 l0 x36_3).f1) ((rd_T30 l0 (ji26)).f0) ((rd_T30 l0 (ji26)).f1) = some r) ∧ Aside0 (kq ≤ k3) ∧ Aside0 (wc.heap[gb168]? = some (.cells #[.int .i64 ((rd_T30 l0 x21_2).f0), .int .i64 ((rd_T30 l0 x21_2).f1)] 30 (0, 0))) ∧ Aside0 (wc.heap[gb169]? = some (.cells #[.int .i64 ((rd_T30 l0 (ji11)).f0), .int .i64 ((rd_T30 l0 (ji11)).f1)] 30 (0, 0))) ∧ Aside0 (wc.heap[gb172]? = some (.cells #[.int .i64 ((rd_T30 l0 x36_3).f0), .int .i64 ((rd_T30 l0 x36_3).f1)] 30 (0, 0))) ∧ Aside0 (wc.heap[gb173]? = some (.cells #[.int .i64 ((rd_T30 l0 (ji26)).f0), .int .i64 ((rd_T30 l0 (ji26)).f1)] 30 (0, 0))) ∧ Aside0 (Below w.heap.size w wc))
                     case first =>
                      have H := HC45.out; clear HC45
                      by_cases c61 : (wrap64 (x36_3 + 1)) = x21_2
                      ·rw [if_pos c61] at H
                       have c61b0 : ((wrap64 (x36_3 + 1)) == x21_2) = true := beq_iff_eq.mpr c61; have c61b1 : ((wrap64 (x36_3 + 1)) != x21_2) = false := bne_eq_false_iff_eq.mpr c61; clear c61; (first | rw [c61b0] | (simp only [i64_w, i32_w]; rw [c61b0]) | skip); have H' := Aside0.mk H; clear H
                       go_wp2
                       go_meet
                       case rel => exact ⟨_, (true), (by first | rfl | (simp; done) | (simp [*]; done)), H', ⟨by have := HJ1.out; have := HK2.out; have := HK3.out; first | omega | exact Nat.le_refl _⟩, ⟨by refine bI ?_; refine blk_far ?_ NB168_173.out _; refine bI ?_; refine blk_far ?_ NB168_173.out _; refine bI ?_; refine blk_far ?_ NB168_172.out _; refine bI ?_; refine blk_far ?_ NB168_172.out _; refine bI ?_; exact BK168.out⟩, ⟨by refine bI ?_; refine blk_far ?_ NB169_173.out _; refine bI ?_; refine blk_far ?_ NB169_173.out _; refine bI ?_; refine blk_far ?_ NB169_172.out _; refine bI ?_; refine blk_far ?_ NB169_172.out _; refine bI ?_; exact BK169.out⟩, ⟨by refine bI ?_; refine blk_far ?_ NB172_173.out _; refine bI ?_; refine blk_far ?_ NB172_173.out _; refine bI ?_; refine blk_put (cs := #[.int .i64 ((rd_T30 l0 x36_3).f0), .int .i64 0]) ?_ 1 _ rfl; refine bI ?_; refine blk_put (cs := #[.int .i64 0, .int .i64 0]) ?_ 0 _ rfl; refine bI ?_; exact BK172.out⟩, ⟨by refine bI ?_; refine blk_put (cs := #[.int .i64 ((rd_T30 l0 (ji26)).f0), .int .i64 0]) ?_ 1 _ rfl; refine bI ?_; refine blk_put (cs := #[.int .i64 0, .int .i64 0]) ?_ 0 _ rfl; refine bI ?_; refine blk_far ?_ NB173_172.out _; refine bI ?_; refine blk_far ?_ NB173_172.out _; refine bI ?_; exact BK173.out⟩, ⟨by repeat with_reducible first | exact HB.out | refine bC ?_ | refine below_set ?_ GE168.out | refine below_set ?_ GE169.out | refine below_set ?_ GE172.out | refine below_set ?_ GE173.out⟩⟩
                      ·rw [if_neg c61] at H
                       have c61b0 : ((wrap64 (x36_3 + 1)) == x21_2) = false := beq_eq_false_iff_ne.mpr c61; have c61b1 : ((wrap64 (x36_3 + 1)) != x21_2) = true := bne_iff_ne.mpr c61; (first | rw [c61b0] | (simp only [i64_w, i32_w]; rw [c61b0]) | skip)
                       by_cases c62 : (wrap64 (x21_2 + 1)) = (l0.length : Int)
                       ·rw [if_pos c62] at H
                        have c62b0 : ((wrap64 (x21_2 + 1)) == (l0.length : Int)) = true := beq_iff_eq.mpr c62; have c62b1 : ((wrap64 (x21_2 + 1)) != (l0.length : Int)) = false := bne_eq_false_iff_eq.mpr c62; clear c62; have H' := Aside0.mk H; clear H
                        go_wp2
                        go_meet
                        case rel => exact ⟨_, ((x36_3 == 0)), (by first | rfl | (simp; done) | (simp [*]; done)), H', ⟨by have := HJ1.out; have := HK2.out; have := HK3.out; first | omega | exact Nat.le_refl _⟩, ⟨by refine bI ?_; refine blk_far ?_ NB168_173.out _; refine bI ?_; refine blk_far ?_ NB168_173.out _; refine bI ?_; refine blk_far ?_ NB168_172.out _; refine bI ?_; refine blk_far ?_ NB168_172.out _; refine bI ?_; exact BK168.out⟩, ⟨by refine bI ?_; refine blk_far ?_ NB169_173.out _; refine bI ?_; refine blk_far ?_ NB169_173.out _; refine bI ?_; refine blk_far ?_ NB169_172.out _; refine bI ?_; refine blk_far ?_ NB169_172.out _; refine bI ?_; exact BK169.out⟩, ⟨by refine bI ?_; refine blk_far ?_ NB172_173.out _; refine bI ?_; refine blk_far ?_ NB172_173.out _; refine bI ?_; refine blk_put (cs := #[.int .i64 ((rd_T30 l0 x36_3).f0), .int .i64 0]) ?_ 1 _ rfl; refine bI ?_; refine blk_put (cs := #[.int .i64 0, .int .i64 0]) ?_ 0 _ rfl; refine bI ?_; exact BK172.out⟩, ⟨by refine bI ?_; refine blk_put (cs := #[.int .i64 ((rd_T30 l0 (ji26)).f0), .int .i64 0]) ?_ 1 _ rfl; refine bI ?_; refine blk_put (cs := #[.int .i64 0, .int .i64 0]) ?_ 0 _ rfl; refine bI ?_; refine blk_far ?_ NB173_172.out _; refine bI ?_; refine blk_far ?_ NB173_172.out _; refine bI ?_; exact BK173.out⟩, ⟨by repeat with_reducible first | exact HB.out | refine bC ?_ | refine below_set ?_ GE168.out | refine below_set ?_ GE169.out | refine below_set ?_ GE172.out | refine below_set ?_ GE173.out⟩⟩
                       ·rw [if_neg c62] at H
                        have c62b0 : ((wrap64 (x21_2 + 1)) == (l0.length : Int)) = false := beq_eq_false_iff_ne.mpr c62; have c62b1 : ((wrap64 (x21_2 + 1)) != (l0.length : Int)) = true := bne_iff_ne.mpr c62; have H' := Aside0.mk H; clear H
                        go_wp2
                        go_meet
                        case rel => exact ⟨_, (false), (by first | rfl | (simp; done) | (simp [*]; done)), H', ⟨by have := HJ1.out; have := HK2.out; have := HK3.out; first | omega | exact Nat.le_refl _⟩, ⟨by refine bI ?_; refine blk_far ?_ NB168_173.out _; refine bI ?_; refine blk_far ?_ NB168_173.out _; refine bI ?_; refine blk_far ?_ NB168_172.out _; refine bI ?_; refine blk_far ?_ NB168_172.out _; refine bI ?_; exact BK168.out⟩, ⟨by refine bI ?_; refine blk_far ?_ NB169_173.out _; refine bI ?_; refine blk_far ?_ NB169_173.out _; refine bI ?_; refine blk_far ?_ NB169_172.out _; refine bI ?_; refine blk_far ?_ NB169_172.out _; refine bI ?_; exact BK169.out⟩, ⟨by refine bI ?_; refine blk_far ?_ NB172_173.out _; refine bI ?_; refine blk_far ?_ NB172_173.out _; refine bI ?_; refine blk_put (cs := #[.int .i64 ((rd_T30 l0 x36_3).f0), .int .i64 0]) ?_ 1 _ rfl; refine bI ?_; refine blk_put (cs := #[.int .i64 0, .int .i64 0]) ?_ 0 _ rfl; refine bI ?_; exact BK172.out⟩, ⟨by refine bI ?_; refine blk_put (cs := #[.int .i64 ((rd_T30 l0 (ji26)).f0), .int .i64 0]) ?_ 1 _ rfl; refine bI ?_; refine blk_put (cs := #[.int .i64 0, .int .i64 0]) ?_ 0 _ rfl; refine bI ?_; refine blk_far ?_ NB173_172.out _; refine bI ?_; refine blk_far ?_ NB173_172.out _; refine bI ?_; exact BK173.out⟩, ⟨by repeat with_reducible first | exact HB.out | refine bC ?_ | refine below_set ?_ GE168.out | refine below_set ?_ GE169.out | refine below_set ?_ GE172.out | refine below_set ?_ GE173.out⟩⟩
                     case rest =>
                      clear HC45
                      try clear p1
                      try clear q1
                      try clear hx1
                      try clear c2
                      try clear p2
                      try clear c3
                      try clear c4
                      try clear c5
                      try clear c6
                      try clear p6
                      try clear p17
                      try clear q17
                      try clear hx17
                      try clear c29
                      try clear c29b0
                      try clear c29b1
                      try clear c29b2
                      try clear c38
                      try clear c39
                      try clear c40
                      try clear c42
                      try clear c43
                      try clear c54
                      try clear c55
                      try clear c56
                      try clear c58
                      try clear c59
                      try clear c61
                      try clear c61b0
                      try clear c61b1
                      try clear c62
                      try clear c62b0
                      try clear c62b1
                      try clear hcz41_0
                      try clear hcz41_1
                      try clear hcz44_0
                      try clear hcz44_1
                      try clear hcz57_0
                      try clear hcz57_1
                      try clear hcz60_0
                      try clear hcz60_1
                      try clear hfz41_0
                      try clear hfz41_1
                      try clear hfz44_0
                      try clear hfz44_1
                      try clear hfz57_0
                      try clear hfz57_1
                      try clear hfz60_0
                      try clear hfz60_1
                      try clear hx170_0
                      try clear hx170_1
                      try clear hx171_0
                      try clear hx171_1
                      try clear p170
                      try clear p171
                      try clear q170
                      try clear q171
                      obtain ⟨kq, x66_44, rfl, HA, HJ44, BK168, BK169, BK172, BK173, HB⟩ := hcut
                      cases kq with
                      | zero => exact absurd HA.out (by simp [poly_Simple.j3])
                      | succ kj44 =>
                       have H := HA.out; clear HA; simp only [poly_Simple.j3] at H
                       by_cases c63 : x66_44 = true
                       ·subst c63; have H1 : (if (((rd_T30 l0 x21_2).f0) == ((rd_T30 l0 (ji11)).f0) && (((rd_T30 l0 x21_2).f1) == ((rd_T30 l0 (ji11)).f1))) = true then (some false) else (if (((rd_T30 l0 x36_3).f0) == ((rd_T30 l0 (ji26)).f0) && (((rd_T30 l0 x36_3).f1) == ((rd_T30 l0 (ji26)).f1))) = true then (some false) else ((seg_Relate.f kj44 ((rd_T30 l0 x21_2).f0) ((rd_T30 l0 x21_2).f1) ((rd_T30 l0 (ji11)).f0) ((rd_T30 l0 (ji11)).f1) ((rd_T30 l0 x36_3).f0) ((rd_T30 l0 x36_3).f1) ((rd_T30 l0 (ji26)).f0) ((rd_T30 l0 (ji26)).f1)).bind fun t174 => (if t174 = 1 then (poly_Simple.l1 kj44 l0 (l0.length : Int) x21_2 (l0.length : Int) x21_2 x21_2 (wrap64 (x36_3 + 1)) ((rd_T30 l0 x21_2).f0) ((rd_T30 l0 x21_2).f1) ((rd_T30 l0 (ji11)).f0) ((rd_T30 l0 (ji11)).f1)) else (some false))))) = some r := by rw [if_pos rfl] at H; exact H
                        clear H; have H := H1; clear H1
                        by_cases c64 : (((rd_T30 l0 x21_2).f0) == ((rd_T30 l0 (ji11)).f0) && (((rd_T30 l0 x21_2).f1) == ((rd_T30 l0 (ji11)).f1))) = true
                        ·rw [if_pos c64] at H
                         have c64b0 : (((rd_T30 l0 x21_2).f0) == ((rd_T30 l0 (ji11)).f0) && (((rd_T30 l0 x21_2).f1) == ((rd_T30 l0 (ji11)).f1))) = true := c64; (try (have c64b1 : decide (((rd_T30 l0 x21_2).f0) = ((rd_T30 l0 (ji11)).f0) && (((rd_T30 l0 x21_2).f1) == ((rd_T30 l0 (ji11)).f1))) = true := by simpa using c64)); (try (have c64b2 : (((rd_T30 l0 x21_2).f0) == ((rd_T30 l0 (ji11)).f0) && (((rd_T30 l0 x21_2).f1) == ((rd_T30 l0 (ji11)).f1))) = true := by simpa using c64)); clear c64; obtain rfl := Option.some.inj H; have hnb65 := NB168_169.out; have hnc65 := NB169_168.out; have hnb66 := NB168_172.out; have hnc66 := NB172_168.out; have hnb67 := NB168_173.out; have hnc67 := NB173_168.out; have hcz68_0 : wc.cell? ⟨gb168, 0, none⟩ = some (.int .i64 ((rd_T30 l0 x21_2).f0)) := (blk_cell BK168.out 0).trans rfl; have hcz68_1 : wc.cell? ⟨gb168, 1, none⟩ = some (.int .i64 ((rd_T30 l0 x21_2).f1)) := (blk_cell BK168.out 1).trans rfl; have hfz68_0 := blk_frozen BK168.out 0; have hfz68_1 := blk_frozen BK168.out 1; have hnb69 := NB169_172.out; have hnc69 := NB172_169.out; have hnb70 := NB169_173.out; have hnc70 := NB173_169.out; have hcz71_0 : wc.cell? ⟨gb169, 0, none⟩ = some (.int .i64 ((rd_T30 l0 (ji11)).f0)) := (blk_cell BK169.out 0).trans rfl; have hcz71_1 : wc.cell? ⟨gb169, 1, none⟩ = some (.int .i64 ((rd_T30 l0 (ji11)).f1)) := (blk_cell BK169.out 1).trans rfl; have hfz71_0 := blk_frozen BK169.out 0; have hfz71_1 := blk_frozen BK169.out 1
                         go_wp2
                         go_ret
                         exact ⟨by first | rfl | (simp [errW_none, errW_some] <;> rfl) | (simp only [← hji11, ← hji26]; first | rfl | (simp [errW_none, errW_some] <;> rfl)) | (simp [*, errW_none, errW_some] <;> rfl), by repeat with_reducible first | exact HB.out | refine bC ?_ | refine below_set ?_ GE168.out | refine below_set ?_ GE169.out | refine below_set ?_ GE172.out | refine below_set ?_ GE173.out⟩
                        ·rw [if_neg c64] at H
                         have c64b0 : (((rd_T30 l0 x21_2).f0) == ((rd_T30 l0 (ji11)).f0) && (((rd_T30 l0 x21_2).f1) == ((rd_T30 l0 (ji11)).f1))) = false := by simpa using c64
                         (try (have c64b1 : decide (((rd_T30 l0 x21_2).f0) = ((rd_T30 l0 (ji11)).f0) && (((rd_T30 l0 x21_2).f1) == ((rd_T30 l0 (ji11)).f1))) = false := by simpa using c64)); (try (have c64b2 : (((rd_T30 l0 x21_2).f0) == ((rd_T30 l0 (ji11)).f0) && (((rd_T30 l0 x21_2).f1) == ((rd_T30 l0 (ji11)).f1))) = false := by simpa using c64)); (try (have c64b3 : ¬ (((rd_T30 l0 x21_2).f0) = ((rd_T30 l0 (ji11)).f0) && (((rd_T30 l0 x21_2).f1) == ((rd_T30 l0 (ji11)).f1))) := by simpa using c64)); clear c64
                         by_cases c72 : (((rd_T30 l0 x36_3).f0) == ((rd_T30 l0 (ji26)).f0) && (((rd_T30 l0 x36_3).f1) == ((rd_T30 l0 (ji26)).f1))) = true
                         ·rw [if_pos c72] at H
                          have c72b0 : (((rd_T30 l0 x36_3).f0) == ((rd_T30 l0 (ji26)).f0) && (((rd_T30 l0 x36_3).f1) == ((rd_T30 l0 (ji26)).f1))) = true := c72; (try (have c72b1 : decide (((rd_T30 l0 x36_3).f0) = ((rd_T30 l0 (ji26)).f0) && (((rd_T30 l0 x36_3).f1) == ((rd_T30 l0 (ji26)).f1))) = true := by simpa using c72)); (try (have c72b2 : (((rd_T30 l0 x36_3).f0) == ((rd_T30 l0 (ji26)).f0) && (((rd_T30 l0 x36_3).f1) == ((rd_T30 l0 (ji26)).f1))) = true := by simpa using c72)); clear c72; obtain rfl := Option.some.inj H; have hnb73 := NB168_169.out; have hnc73 := NB169_168.out; have hnb74 := NB168_172.out; have hnc74 := NB172_168.out; have hnb75 := NB168_173.out; have hnc75 := NB173_168.out; have hcz76_0 : wc.cell? ⟨gb168, 0, none⟩ = some (.int .i64 ((rd_T30 l0 x21_2).f0)) := (blk_cell BK168.out 0).trans rfl; have hcz76_1 : wc.cell? ⟨gb168, 1, none⟩ = some (.int .i64 ((rd_T30 l0 x21_2).f1)) := (blk_cell BK168.out 1).trans rfl; have hfz76_0 := blk_frozen BK168.out 0; have hfz76_1 := blk_frozen BK168.out 1; have hnb77 := NB169_172.out; have hnc77 := NB172_169.out; have hnb78 := NB169_173.out; have hnc78 := NB173_169.out; have hcz79_0 : wc.cell? ⟨gb169, 0, none⟩ = some (.int .i64 ((rd_T30 l0 (ji11)).f0)) := (blk_cell BK169.out 0).trans rfl; have hcz79_1 : wc.cell? ⟨gb169, 1, none⟩ = some (.int .i64 ((rd_T30 l0 (ji11)).f1)) := (blk_cell BK169.out 1).trans rfl; have hfz79_0 := blk_frozen BK169.out 0; have hfz79_1 := blk_frozen BK169.out 1; have hnb80 := NB172_173.out; have hnc80 := NB173_172.out; have hcz81_0 : wc.cell? ⟨gb172, 0, none⟩ = some (.int .i64 ((rd_T30 l0 x36_3).f0)) := (blk_cell BK172.out 0).trans rfl; have hcz81_1 : wc.cell? ⟨gb172, 1, none⟩ = some (.int .i64 ((rd_T30 l0 x36_3).f1)) := (blk_cell BK172.out 1).trans rfl; have hfz81_0 := blk_frozen BK172.out 0; have hfz81_1 := blk_frozen BK172.out 1; have hcz82_0 : wc.cell? ⟨gb173, 0, none⟩ = some (.int .i64 ((rd_T30 l0 (ji26)).f0)) := (blk_cell BK173.out 0).trans rfl; have hcz82_1 : wc.cell? ⟨gb173, 1, none⟩ = some (.int .i64 ((rd_T30 l0 (ji26)).f1)) := (blk_cell BK173.out 1).trans rfl; have hfz82_0 := blk_frozen BK173.out 0; have hfz82_1 := blk_frozen BK173.out 1
                          go_wp2
                          go_ret
                          exact ⟨by first | rfl | (simp [errW_none, errW_some] <;> rfl) | (simp only [← hji11, ← hji26]; first | rfl | (simp [errW_none, errW_some] <;> rfl)) | (simp [*, errW_none, errW_some] <;> rfl), by repeat with_reducible first | exact HB.out | refine bC ?_ | refine below_set ?_ GE168.out | refine below_set ?_ GE169.out | refine below_set ?_ GE172.out | refine below_set ?_ GE173.out⟩
                         ·rw [if_neg c72] at H
                          have c72b0 : (((rd_T30 l0 x36_3).f0) == ((rd_T30 l0 (ji26)).f0) && (((rd_T30 l0 x36_3).f1) == ((rd_T30 l0 (ji26)).f1))) = false := by simpa using c72
                          (try (have c72b1 : decide (((rd_T30 l0 x36_3).f0) = ((rd_T30 l0 (ji26)).f0) && (((rd_T30 l0 x36_3).f1) == ((rd_T30 l0 (ji26)).f1))) = false := by simpa using c72)); (try (have c72b2 : (((rd_T30 l0 x36_3).f0) == ((rd_T30 l0 (ji26)).f0) && (((rd_T30 l0 x36_3).f1) == ((rd_T30 l0 (ji26)).f1))) = false := by simpa using c72)); (try (have c72b3 : ¬ (((rd_T30 l0 x36_3).f0) = ((rd_T30 l0 (ji26)).f0) && (((rd_T30 l0 x36_3).f1) == ((rd_T30 l0 (ji26)).f1))) := by simpa using c72)); clear c72; replace H := Option.bind_eq_some_iff.mp H; obtain ⟨t174, A830, H⟩ := H; replace H : (if t174 = 1 then (poly_Simple.l1 kj44 l0 (l0.length : Int) x21_2 (l0.length : Int) x21_2 x21_2 (wrap64 (x36_3 + 1)) ((rd_T30 l0 x21_2).f0) ((rd_T30 l0 x21_2).f1) ((rd_T30 l0 (ji11)).f0) ((rd_T30 l0 (ji11)).f1)) else (some false)) = some r := H; have A83 := Aside0.mk A830; clear A830
                          by_cases c84 : t174 = 1
                          ·rw [if_pos c84] at H
                           have c84b0 : (t174 == 1) = true := beq_iff_eq.mpr c84; have c84b1 : (t174 != 1) = false := bne_eq_false_iff_eq.mpr c84; clear c84; have H' := Aside0.mk H; clear H; have hnb85 := NB168_169.out; have hnc85 := NB169_168.out; have hnb86 := NB168_172.out; have hnc86 := NB172_168.out; have hnb87 := NB168_173.out; have hnc87 := NB173_168.out; have hcz88_0 : wc.cell? ⟨gb168, 0, none⟩ = some (.int .i64 ((rd_T30 l0 x21_2).f0)) := (blk_cell BK168.out 0).trans rfl; have hcz88_1 : wc.cell? ⟨gb168, 1, none⟩ = some (.int .i64 ((rd_T30 l0 x21_2).f1)) := (blk_cell BK168.out 1).trans rfl; have hfz88_0 := blk_frozen BK168.out 0; have hfz88_1 := blk_frozen BK168.out 1; have hnb89 := NB169_172.out; have hnc89 := NB172_169.out; have hnb90 := NB169_173.out; have hnc90 := NB173_169.out; have hcz91_0 : wc.cell? ⟨gb169, 0, none⟩ = some (.int .i64 ((rd_T30 l0 (ji11)).f0)) := (blk_cell BK169.out 0).trans rfl; have hcz91_1 : wc.cell? ⟨gb169, 1, none⟩ = some (.int .i64 ((rd_T30 l0 (ji11)).f1)) := (blk_cell BK169.out 1).trans rfl; have hfz91_0 := blk_frozen BK169.out 0; have hfz91_1 := blk_frozen BK169.out 1; have hnb92 := NB172_173.out; have hnc92 := NB173_172.out; have hcz93_0 : wc.cell? ⟨gb172, 0, none⟩ = some (.int .i64 ((rd_T30 l0 x36_3).f0)) := (blk_cell BK172.out 0).trans rfl; have hcz93_1 : wc.cell? ⟨gb172, 1, none⟩ = some (.int .i64 ((rd_T30 l0 x36_3).f1)) := (blk_cell BK172.out 1).trans rfl; have hfz93_0 := blk_frozen BK172.out 0; have hfz93_1 := blk_frozen BK172.out 1; have hcz94_0 : wc.cell? ⟨gb173, 0, none⟩ = some (.int .i64 ((rd_T30 l0 (ji26)).f0)) := (blk_cell BK173.out 0).trans rfl; have hcz94_1 : wc.cell? ⟨gb173, 1, none⟩ = some (.int .i64 ((rd_T30 l0 (ji26)).f1)) := (blk_cell BK173.out 1).trans rfl; have hfz94_0 := blk_frozen BK173.out 0; have hfz94_1 := blk_frozen BK173.out 1
                           go_wp2_with (first | (go_at_call 32; (with_reducible refine (seg_Relate.calls kj44 ((rd_T30 l0 x21_2).f0) ((rd_T30 l0 x21_2).f1) ((rd_T30 l0 (ji11)).f0) ((rd_T30 l0 (ji11)).f1) ((rd_T30 l0 x36_3).f0) ((rd_T30 l0 x36_3).f1) ((rd_T30 l0 (ji26)).f0) ((rd_T30 l0 (ji26)).f1) t174 _ A83.out).mono ?_); rintro e w95 ⟨rfl, hb⟩; have n0_ := Aside0.mk (blk_below (bI BK168.out) hb); have n1_ := Aside0.mk (blk_below (bI BK169.out) hb); have n2_ := Aside0.mk (blk_below (bI BK172.out) hb); have n3_ := Aside0.mk (blk_below (bI BK173.out) hb); have n4_ := Aside0.mk (below_step (by repeat with_reducible first | exact HB.out | refine bC ?_ | refine below_set ?_ GE168.out | refine below_set ?_ GE169.out | refine below_set ?_ GE172.out | refine below_set ?_ GE173.out) hb); clear BK168 BK169 BK172 BK173 HB; have BK168 := n0_; have BK169 := n1_; have BK172 := n2_; have BK173 := n3_; have HB := n4_; clear n0_ n1_ n2_ n3_ n4_; (try clear hb); (try clear hb2); (try clear hk); (try clear hi)))
                           go_roundg kj44
                           case measure => have := HJ1.out; have := HK2.out; have := HK3.out; have := HJ44.out; omega
                           case rel => exact ⟨(wrap64 (x36_3 + 1)), (by first | rfl | (simp; done) | (simp [*]; done)), H', ⟨by have := HJ1.out; have := HK2.out; have := HK3.out; have := HJ44.out; omega⟩, ⟨by refine bI ?_; exact BK168.out⟩, ⟨by refine bI ?_; exact BK169.out⟩, ⟨by repeat with_reducible first | exact HB.out | refine bC ?_ | refine below_set ?_ GE168.out | refine below_set ?_ GE169.out | refine below_set ?_ GE172.out | refine below_set ?_ GE173.out⟩⟩
                          ·rw [if_neg c84] at H
                           have c84b0 : (t174 == 1) = false := beq_eq_false_iff_ne.mpr c84; have c84b1 : (t174 != 1) = true := bne_iff_ne.mpr c84; obtain rfl := Option.some.inj H; have hnb96 := NB168_169.out; have hnc96 := NB169_168.out; have hnb97 := NB168_172.out; have hnc97 := NB172_168.out; have hnb98 := NB168_173.out; have hnc98 := NB173_168.out; have hcz99_0 : wc.cell? ⟨gb168, 0, none⟩ = some (.int .i64 ((rd_T30 l0 x21_2).f0)) := (blk_cell BK168.out 0).trans rfl; have hcz99_1 : wc.cell? ⟨gb168, 1, none⟩ = some (.int .i64 ((rd_T30 l0 x21_2).f1)) := (blk_cell BK168.out 1).trans rfl; have hfz99_0 := blk_frozen BK168.out 0; have hfz99_1 := blk_frozen BK168.out 1; have hnb100 := NB169_172.out; have hnc100 := NB172_169.out; have hnb101 := NB169_173.out; have hnc101 := NB173_169.out; have hcz102_0 : wc.cell? ⟨gb169, 0, none⟩ = some (.int .i64 ((rd_T30 l0 (ji11)).f0)) := (blk_cell BK169.out 0).trans rfl; have hcz102_1 : wc.cell? ⟨gb169, 1, none⟩ = some (.int .i64 ((rd_T30 l0 (ji11)).f1)) := (blk_cell BK169.out 1).trans rfl; have hfz102_0 := blk_frozen BK169.out 0; have hfz102_1 := blk_frozen BK169.out 1; have hnb103 := NB172_173.out; have hnc103 := NB173_172.out; have hcz104_0 : wc.cell? ⟨gb172, 0, none⟩ = some (.int .i64 ((rd_T30 l0 x36_3).f0)) := (blk_cell BK172.out 0).trans rfl; have hcz104_1 : wc.cell? ⟨gb172, 1, none⟩ = some (.int .i64 ((rd_T30 l0 x36_3).f1)) := (blk_cell BK172.out 1).trans rfl; have hfz104_0 := blk_frozen BK172.out 0; have hfz104_1 := blk_frozen BK172.out 1; have hcz105_0 : wc.cell? ⟨gb173, 0, none⟩ = some (.int .i64 ((rd_T30 l0 (ji26)).f0)) := (blk_cell BK173.out 0).trans rfl; have hcz105_1 : wc.cell? ⟨gb173, 1, none⟩ = some (.int .i64 ((rd_T30 l0 (ji26)).f1)) := (blk_cell BK173.out 1).trans rfl; have hfz105_0 := blk_frozen BK173.out 0; have hfz105_1 := blk_frozen BK173.out 1
                           go_wp2_with (first | (go_at_call 32; (with_reducible refine (seg_Relate.calls kj44 ((rd_T30 l0 x21_2).f0) ((rd_T30 l0 x21_2).f1) ((rd_T30 l0 (ji11)).f0) ((rd_T30 l0 (ji11)).f1) ((rd_T30 l0 x36_3).f0) ((rd_T30 l0 x36_3).f1) ((rd_T30 l0 (ji26)).f0) ((rd_T30 l0 (ji26)).f1) t174 _ A83.out).mono ?_); rintro e w106 ⟨rfl, hb⟩; have n0_ := Aside0.mk (blk_below (bI BK168.out) hb); have n1_ := Aside0.mk (blk_below (bI BK169.out) hb); have n2_ := Aside0.mk (blk_below (bI BK172.out) hb); have n3_ := Aside0.mk (blk_below (bI BK173.out) hb); have n4_ := Aside0.mk (below_step (by repeat with_reducible first | exact HB.out | refine bC ?_ | refine below_set ?_ GE168.out | refine below_set ?_ GE169.out | refine below_set ?_ GE172.out | refine below_set ?_ GE173.out) hb); clear BK168 BK169 BK172 BK173 HB; have BK168 := n0_; have BK169 := n1_; have BK172 := n2_; have BK173 := n3_; have HB := n4_; clear n0_ n1_ n2_ n3_ n4_; (try clear hb); (try clear hb2); (try clear hk); (try clear hi)))
                           go_ret
                           exact ⟨by first | rfl | (simp [errW_none, errW_some] <;> rfl) | (simp only [← hji11, ← hji26]; first | rfl | (simp [errW_none, errW_some] <;> rfl)) | (simp [*, errW_none, errW_some] <;> rfl), by repeat with_reducible first | exact HB.out | refine bC ?_ | refine below_set ?_ GE168.out | refine below_set ?_ GE169.out | refine below_set ?_ GE172.out | refine below_set ?_ GE173.out⟩
                       ·replace c63 := Bool.eq_false_iff.mpr c63; subst c63; have H1 : (if (((rd_T30 l0 x21_2).f0) == ((rd_T30 l0 (ji11)).f0) && (((rd_T30 l0 x21_2).f1) == ((rd_T30 l0 (ji11)).f1))) = true then (some false) else (if (((rd_T30 l0 x36_3).f0) == ((rd_T30 l0 (ji26)).f0) && (((rd_T30 l0 x36_3).f1) == ((rd_T30 l0 (ji26)).f1))) = true then (some false) else ((seg_Relate.f kj44 ((rd_T30 l0 x21_2).f0) ((rd_T30 l0 x21_2).f1) ((rd_T30 l0 (ji11)).f0) ((rd_T30 l0 (ji11)).f1) ((rd_T30 l0 x36_3).f0) ((rd_T30 l0 x36_3).f1) ((rd_T30 l0 (ji26)).f0) ((rd_T30 l0 (ji26)).f1)).bind fun t175 => (if t175 = 0 then (poly_Simple.l1 kj44 l0 (l0.length : Int) x21_2 (l0.length : Int) x21_2 x21_2 (wrap64 (x36_3 + 1)) ((rd_T30 l0 x21_2).f0) ((rd_T30 l0 x21_2).f1) ((rd_T30 l0 (ji11)).f0) ((rd_T30 l0 (ji11)).f1)) else (some false))))) = some r := by rw [if_neg (show ¬ (false = true) by decide)] at H; exact H
                        clear H; have H := H1; clear H1
                        by_cases c107 : (((rd_T30 l0 x21_2).f0) == ((rd_T30 l0 (ji11)).f0) && (((rd_T30 l0 x21_2).f1) == ((rd_T30 l0 (ji11)).f1))) = true
                        ·rw [if_pos c107] at H
                         have c107b0 : (((rd_T30 l0 x21_2).f0) == ((rd_T30 l0 (ji11)).f0) && (((rd_T30 l0 x21_2).f1) == ((rd_T30 l0 (ji11)).f1))) = true := c107; (try (have c107b1 : decide (((rd_T30 l0 x21_2).f0) = ((rd_T30 l0 (ji11)).f0) && (((rd_T30 l0 x21_2).f1) == ((rd_T30 l0 (ji11)).f1))) = true := by simpa using c107)); (try (have c107b2 : (((rd_T30 l0 x21_2).f0) == ((rd_T30 l0 (ji11)).f0) && (((rd_T30 l0 x21_2).f1) == ((rd_T30 l0 (ji11)).f1))) = true := by simpa using c107)); clear c107; obtain rfl := Option.some.inj H; have hnb108 := NB168_169.out; have hnc108 := NB169_168.out; have hnb109 := NB168_172.out; have hnc109 := NB172_168.out; have hnb110 := NB168_173.out; have hnc110 := NB173_168.out; have hcz111_0 : wc.cell? ⟨gb168, 0, none⟩ = some (.int .i64 ((rd_T30 l0 x21_2).f0)) := (blk_cell BK168.out 0).trans rfl; have hcz111_1 : wc.cell? ⟨gb168, 1, none⟩ = some (.int .i64 ((rd_T30 l0 x21_2).f1)) := (blk_cell BK168.out 1).trans rfl; have hfz111_0 := blk_frozen BK168.out 0; have hfz111_1 := blk_frozen BK168.out 1; have hnb112 := NB169_172.out; have hnc112 := NB172_169.out; have hnb113 := NB169_173.out; have hnc113 := NB173_169.out; have hcz114_0 : wc.cell? ⟨gb169, 0, none⟩ = some (.int .i64 ((rd_T30 l0 (ji11)).f0)) := (blk_cell BK169.out 0).trans rfl; have hcz114_1 : wc.cell? ⟨gb169, 1, none⟩ = some (.int .i64 ((rd_T30 l0 (ji11)).f1)) := (blk_cell BK169.out 1).trans rfl; have hfz114_0 := blk_frozen BK169.out 0; have hfz114_1 := blk_frozen BK169.out 1
                         go_wp2
                         go_ret
                         exact ⟨by first | rfl | (simp [errW_none, errW_some] <;> rfl) | (simp only [← hji11, ← hji26]; first | rfl | (simp [errW_none, errW_some] <;> rfl)) | (simp [*, errW_none, errW_some] <;> rfl), by repeat with_reducible first | exact HB.out | refine bC ?_ | refine below_set ?_ GE168.out | refine below_set ?_ GE169.out | refine below_set ?_ GE172.out | refine below_set ?_ GE173.out⟩
                        ·rw [if_neg c107] at H
                         have c107b0 : (((rd_T30 l0 x21_2).f0) == ((rd_T30 l0 (ji11)).f0) && (((rd_T30 l0 x21_2).f1) == ((rd_T30 l0 (ji11)).f1))) = false := by simpa using c107
                         (try (have c107b1 : decide (((rd_T30 l0 x21_2).f0) = ((rd_T30 l0 (ji11)).f0) && (((rd_T30 l0 x21_2).f1) == ((rd_T30 l0 (ji11)).f1))) = false := by simpa using c107)); (try (have c107b2 : (((rd_T30 l0 x21_2).f0) == ((rd_T30 l0 (ji11)).f0) && (((rd_T30 l0 x21_2).f1) == ((rd_T30 l0 (ji11)).f1))) = false := by simpa using c107)); (try (have c107b3 : ¬ (((rd_T30 l0 x21_2).f0) = ((rd_T30 l0 (ji11)).f0) && (((rd_T30 l0 x21_2).f1) == ((rd_T30 l0 (ji11)).f1))) := by simpa using c107)); clear c107
                         by_cases c115 : (((rd_T30 l0 x36_3).f0) == ((rd_T30 l0 (ji26)).f0) && (((rd_T30 l0 x36_3).f1) == ((rd_T30 l0 (ji26)).f1))) = true
                         ·rw [if_pos c115] at H
                          have c115b0 : (((rd_T30 l0 x36_3).f0) == ((rd_T30 l0 (ji26)).f0) && (((rd_T30 l0 x36_3).f1) == ((rd_T30 l0 (ji26)).f1))) = true := c115; (try (have c115b1 : decide (((rd_T30 l0 x36_3).f0) = ((rd_T30 l0 (ji26)).f0) && (((rd_T30 l0 x36_3).f1) == ((rd_T30 l0 (ji26)).f1))) = true := by simpa using c115)); (try (have c115b2 : (((rd_T30 l0 x36_3).f0) == ((rd_T30 l0 (ji26)).f0) && (((rd_T30 l0 x36_3).f1) == ((rd_T30 l0 (ji26)).f1))) = true := by simpa using c115)); clear c115; obtain rfl := Option.some.inj H; have hnb116 := NB168_169.out; have hnc116 := NB169_168.out; have hnb117 := NB168_172.out; have hnc117 := NB172_168.out; have hnb118 := NB168_173.out; have hnc118 := NB173_168.out; have hcz119_0 : wc.cell? ⟨gb168, 0, none⟩ = some (.int .i64 ((rd_T30 l0 x21_2).f0)) := (blk_cell BK168.out 0).trans rfl; have hcz119_1 : wc.cell? ⟨gb168, 1, none⟩ = some (.int .i64 ((rd_T30 l0 x21_2).f1)) := (blk_cell BK168.out 1).trans rfl; have hfz119_0 := blk_frozen BK168.out 0; have hfz119_1 := blk_frozen BK168.out 1; have hnb120 := NB169_172.out; have hnc120 := NB172_169.out; have hnb121 := NB169_173.out; have hnc121 := NB173_169.out; have hcz122_0 : wc.cell? ⟨gb169, 0, none⟩ = some (.int .i64 ((rd_T30 l0 (ji11)).f0)) := (blk_cell BK169.out 0).trans rfl; have hcz122_1 : wc.cell? ⟨gb169, 1, none⟩ = some (.int .i64 ((rd_T30 l0 (ji11)).f1)) := (blk_cell BK169.out 1).trans rfl; have hfz122_0 := blk_frozen BK169.out 0; have hfz122_1 := blk_frozen BK169.out 1; have hnb123 := NB172_173.out; have hnc123 := NB173_172.out; have hcz124_0 : wc.cell? ⟨gb172, 0, none⟩ = some (.int .i64 ((rd_T30 l0 x36_3).f0)) := (blk_cell BK172.out 0).trans rfl; have hcz124_1 : wc.cell? ⟨gb172, 1, none⟩ = some (.int .i64 ((rd_T30 l0 x36_3).f1)) := (blk_cell BK172.out 1).trans rfl; have hfz124_0 := blk_frozen BK172.out 0; have hfz124_1 := blk_frozen BK172.out 1; have hcz125_0 : wc.cell? ⟨gb173, 0, none⟩ = some (.int .i64 ((rd_T30 l0 (ji26)).f0)) := (blk_cell BK173.out 0).trans rfl; have hcz125_1 : wc.cell? ⟨gb173, 1, none⟩ = some (.int .i64 ((rd_T30 l0 (ji26)).f1)) := (blk_cell BK173.out 1).trans rfl; have hfz125_0 := blk_frozen BK173.out 0; have hfz125_1 := blk_frozen BK173.out 1
                          go_wp2
                          go_ret
                          exact ⟨by first | rfl | (simp [errW_none, errW_some] <;> rfl) | (simp only [← hji11, ← hji26]; first | rfl | (simp [errW_none, errW_some] <;> rfl)) | (simp [*, errW_none, errW_some] <;> rfl), by repeat with_reducible first | exact HB.out | refine bC ?_ | refine below_set ?_ GE168.out | refine below_set ?_ GE169.out | refine below_set ?_ GE172.out | refine below_set ?_ GE173.out⟩
                         ·rw [if_neg c115] at H
                          have c115b0 : (((rd_T30 l0 x36_3).f0) == ((rd_T30 l0 (ji26)).f0) && (((rd_T30 l0 x36_3).f1) == ((rd_T30 l0 (ji26)).f1))) = false := by simpa using c115
                          (try (have c115b1 : decide (((rd_T30 l0 x36_3).f0) = ((rd_T30 l0 (ji26)).f0) && (((rd_T30 l0 x36_3).f1) == ((rd_T30 l0 (ji26)).f1))) = false := by simpa using c115)); (try (have c115b2 : (((rd_T30 l0 x36_3).f0) == ((rd_T30 l0 (ji26)).f0) && (((rd_T30 l0 x36_3).f1) == ((rd_T30 l0 (ji26)).f1))) = false := by simpa using c115)); (try (have c115b3 : ¬ (((rd_T30 l0 x36_3).f0) = ((rd_T30 l0 (ji26)).f0) && (((rd_T30 l0 x36_3).f1) == ((rd_T30 l0 (ji26)).f1))) := by simpa using c115)); clear c115; replace H := Option.bind_eq_some_iff.mp H; obtain ⟨t175, A1260, H⟩ := H; replace H : (if t175 = 0 then (poly_Simple.l1 kj44 l0 (l0.length : Int) x21_2 (l0.length : Int) x21_2 x21_2 (wrap64 (x36_3 + 1)) ((rd_T30 l0 x21_2).f0) ((rd_T30 l0 x21_2).f1) ((rd_T30 l0 (ji11)).f0) ((rd_T30 l0 (ji11)).f1)) else (some false)) = some r := H; have A126 := Aside0.mk A1260; clear A1260
                          by_cases c127 : t175 = 0
                          ·rw [if_pos c127] at H
                           have c127b0 : (t175 == 0) = true := beq_iff_eq.mpr c127; have c127b1 : (t175 != 0) = false := bne_eq_false_iff_eq.mpr c127; clear c127; have H' := Aside0.mk H; clear H; have hnb128 := NB168_169.out; have hnc128 := NB169_168.out; have hnb129 := NB168_172.out; have hnc129 := NB172_168.out; have hnb130 := NB168_173.out; have hnc130 := NB173_168.out; have hcz131_0 : wc.cell? ⟨gb168, 0, none⟩ = some (.int .i64 ((rd_T30 l0 x21_2).f0)) := (blk_cell BK168.out 0).trans rfl; have hcz131_1 : wc.cell? ⟨gb168, 1, none⟩ = some (.int .i64 ((rd_T30 l0 x21_2).f1)) := (blk_cell BK168.out 1).trans rfl; have hfz131_0 := blk_frozen BK168.out 0; have hfz131_1 := blk_frozen BK168.out 1; have hnb132 := NB169_172.out; have hnc132 := NB172_169.out; have hnb133 := NB169_173.out; have hnc133 := NB173_169.out; have hcz134_0 : wc.cell? ⟨gb169, 0, none⟩ = some (.int .i64 ((rd_T30 l0 (ji11)).f0)) := (blk_cell BK169.out 0).trans rfl; have hcz134_1 : wc.cell? ⟨gb169, 1, none⟩ = some (.int .i64 ((rd_T30 l0 (ji11)).f1)) := (blk_cell BK169.out 1).trans rfl; have hfz134_0 := blk_frozen BK169.out 0; have hfz134_1 := blk_frozen BK169.out 1; have hnb135 := NB172_173.out; have hnc135 := NB173_172.out; have hcz136_0 : wc.cell? ⟨gb172, 0, none⟩ = some (.int .i64 ((rd_T30 l0 x36_3).f0)) := (blk_cell BK172.out 0).trans rfl; have hcz136_1 : wc.cell? ⟨gb172, 1, none⟩ = some (.int .i64 ((rd_T30 l0 x36_3).f1)) := (blk_cell BK172.out 1).trans rfl; have hfz136_0 := blk_frozen BK172.out 0; have hfz136_1 := blk_frozen BK172.out 1; have hcz137_0 : wc.cell? ⟨gb173, 0, none⟩ = some (.int .i64 ((rd_T30 l0 (ji26)).f0)) := (blk_cell BK173.out 0).trans rfl; have hcz137_1 : wc.cell? ⟨gb173, 1, none⟩ = some (.int .i64 ((rd_T30 l0 (ji26)).f1)) := (blk_cell BK173.out 1).trans rfl; have hfz137_0 := blk_frozen BK173.out 0; have hfz137_1 := blk_frozen BK173.out 1
                           go_wp2_with (first | (go_at_call 32; (with_reducible refine (seg_Relate.calls kj44 ((rd_T30 l0 x21_2).f0) ((rd_T30 l0 x21_2).f1) ((rd_T30 l0 (ji11)).f0) ((rd_T30 l0 (ji11)).f1) ((rd_T30 l0 x36_3).f0) ((rd_T30 l0 x36_3).f1) ((rd_T30 l0 (ji26)).f0) ((rd_T30 l0 (ji26)).f1) t175 _ A126.out).mono ?_); rintro e w138 ⟨rfl, hb⟩; have n0_ := Aside0.mk (blk_below (bI BK168.out) hb); have n1_ := Aside0.mk (blk_below (bI BK169.out) hb); have n2_ := Aside0.mk (blk_below (bI BK172.out) hb); have n3_ := Aside0.mk (blk_below (bI BK173.out) hb); have n4_ := Aside0.mk (below_step (by repeat with_reducible first | exact HB.out | refine bC ?_ | refine below_set ?_ GE168.out | refine below_set ?_ GE169.out | refine below_set ?_ GE172.out | refine below_set ?_ GE173.out) hb); clear BK168 BK169 BK172 BK173 HB; have BK168 := n0_; have BK169 := n1_; have BK172 := n2_; have BK173 := n3_; have HB := n4_; clear n0_ n1_ n2_ n3_ n4_; (try clear hb); (try clear hb2); (try clear hk); (try clear hi)))
                           go_roundg kj44
                           case measure => have := HJ1.out; have := HK2.out; have := HK3.out; have := HJ44.out; omega
                           case rel => exact ⟨(wrap64 (x36_3 + 1)), (by first | rfl | (simp; done) | (simp [*]; done)), H', ⟨by have := HJ1.out; have := HK2.out; have := HK3.out; have := HJ44.out; omega⟩, ⟨by refine bI ?_; exact BK168.out⟩, ⟨by refine bI ?_; exact BK169.out⟩, ⟨by repeat with_reducible first | exact HB.out | refine bC ?_ | refine below_set ?_ GE168.out | refine below_set ?_ GE169.out | refine below_set ?_ GE172.out | refine below_set ?_ GE173.out⟩⟩
                          ·rw [if_neg c127] at H
                           have c127b0 : (t175 == 0) = false := beq_eq_false_iff_ne.mpr c127; have c127b1 : (t175 != 0) = true := bne_iff_ne.mpr c127; obtain rfl := Option.some.inj H; have hnb139 := NB168_169.out; have hnc139 := NB169_168.out; have hnb140 := NB168_172.out; have hnc140 := NB172_168.out; have hnb141 := NB168_173.out; have hnc141 := NB173_168.out; have hcz142_0 : wc.cell? ⟨gb168, 0, none⟩ = some (.int .i64 ((rd_T30 l0 x21_2).f0)) := (blk_cell BK168.out 0).trans rfl; have hcz142_1 : wc.cell? ⟨gb168, 1, none⟩ = some (.int .i64 ((rd_T30 l0 x21_2).f1)) := (blk_cell BK168.out 1).trans rfl; have hfz142_0 := blk_frozen BK168.out 0; have hfz142_1 := blk_frozen BK168.out 1; have hnb143 := NB169_172.out; have hnc143 := NB172_169.out; have hnb144 := NB169_173.out; have hnc144 := NB173_169.out; have hcz145_0 : wc.cell? ⟨gb169, 0, none⟩ = some (.int .i64 ((rd_T30 l0 (ji11)).f0)) := (blk_cell BK169.out 0).trans rfl; have hcz145_1 : wc.cell? ⟨gb169, 1, none⟩ = some (.int .i64 ((rd_T30 l0 (ji11)).f1)) := (blk_cell BK169.out 1).trans rfl; have hfz145_0 := blk_frozen BK169.out 0; have hfz145_1 := blk_frozen BK169.out 1; have hnb146 := NB172_173.out; have hnc146 := NB173_172.out; have hcz147_0 : wc.cell? ⟨gb172, 0, none⟩ = some (.int .i64 ((rd_T30 l0 x36_3).f0)) := (blk_cell BK172.out 0).trans rfl; have hcz147_1 : wc.cell? ⟨gb172, 1, none⟩ = some (.int .i64 ((rd_T30 l0 x36_3).f1)) := (blk_cell BK172.out 1).trans rfl; have hfz147_0 := blk_frozen BK172.out 0; have hfz147_1 := blk_frozen BK172.out 1; have hcz148_0 : wc.cell? ⟨gb173, 0, none⟩ = some (.int .i64 ((rd_T30 l0 (ji26)).f0)) := (blk_cell BK173.out 0).trans rfl; have hcz148_1 : wc.cell? ⟨gb173, 1, none⟩ = some (.int .i64 ((rd_T30 l0 (ji26)).f1)) := (blk_cell BK173.out 1).trans rfl; have hfz148_0 := blk_frozen BK173.out 0; have hfz148_1 := blk_frozen BK173.out 1
                           go_wp2_with (first | (go_at_call 32; (with_reducible refine (seg_Relate.calls kj44 ((rd_T30 l0 x21_2).f0) ((rd_T30 l0 x21_2).f1) ((rd_T30 l0 (ji11)).f0) ((rd_T30 l0 (ji11)).f1) ((rd_T30 l0 x36_3).f0) ((rd_T30 l0 x36_3).f1) ((rd_T30 l0 (ji26)).f0) ((rd_T30 l0 (ji26)).f1) t175 _ A126.out).mono ?_); rintro e w149 ⟨rfl, hb⟩; have n0_ := Aside0.mk (blk_below (bI BK168.out) hb); have n1_ := Aside0.mk (blk_below (bI BK169.out) hb); have n2_ := Aside0.mk (blk_below (bI BK172.out) hb); have n3_ := Aside0.mk (blk_below (bI BK173.out) hb); have n4_ := Aside0.mk (below_step (by repeat with_reducible first | exact HB.out | refine bC ?_ | refine below_set ?_ GE168.out | refine below_set ?_ GE169.out | refine below_set ?_ GE172.out | refine below_set ?_ GE173.out) hb); clear BK168 BK169 BK172 BK173 HB; have BK168 := n0_; have BK169 := n1_; have BK172 := n2_; have BK173 := n3_; have HB := n4_; clear n0_ n1_ n2_ n3_ n4_; (try clear hb); (try clear hb2); (try clear hk); (try clear hi)))
                           go_ret
                           exact ⟨by first | rfl | (simp [errW_none, errW_some] <;> rfl) | (simp only [← hji11, ← hji26]; first | rfl | (simp [errW_none, errW_some] <;> rfl)) | (simp [*, errW_none, errW_some] <;> rfl), by repeat with_reducible first | exact HB.out | refine bC ?_ | refine below_set ?_ GE168.out | refine below_set ?_ GE169.out | refine below_set ?_ GE172.out | refine below_set ?_ GE173.out⟩
                   ·rw [if_neg c28] at H
                    exact absurd H (by simp)
                  ·rw [if_neg c27] at H
                   exact absurd H (by simp)
                ·rw [if_neg c24] at H
                 exact absurd H (by simp)
               ·rw [if_neg c23] at H
                exact absurd H (by simp)
              ·rw [if_neg c22] at H
               have c22b0 : decide (x36_3 < x21_2) = false := decide_eq_false c22; clear c22; have H' := Aside0.mk H; clear H
               go_wp2
               go_roundg k3
               case measure => have := HJ1.out; have := HK2.out; have := HK3.out; omega
               case rel => exact ⟨(wrap64 (x21_2 + 1)), (by first | rfl | (simp; done) | (simp [*]; done)), H', ⟨by have := HJ1.out; have := HK2.out; have := HK3.out; omega⟩, ⟨by repeat with_reducible first | exact HB.out | refine bC ?_ | refine below_set ?_ GE168.out | refine below_set ?_ GE169.out⟩⟩
           ·rw [if_neg c13] at H
            exact absurd H (by simp)
          ·rw [if_neg c12] at H
           exact absurd H (by simp)
        ·rw [if_neg c9] at H
         exact absurd H (by simp)
       ·rw [if_neg c8] at H
        exact absurd H (by simp)
      ·rw [if_neg c7] at H
       have c7b0 : decide (x21_2 < (l0.length : Int)) = false := decide_eq_false c7; clear c7; obtain rfl := Option.some.inj H
       go_wp2
       go_ret
       exact ⟨by first | rfl | (simp [errW_none, errW_some] <;> rfl) | (simp [*, errW_none, errW_some] <;> rfl), bB HB.out⟩

end Go.Proofs.Ytggafoldccikdaa.PAll
