import Derived.Test.YtggafoldccikdaaPAllx0
import Derived.Test.YtggafoldccikdaaPAllx1
import Derived.Test.YtggafoldccikdaaPAllx30
import Derived.Test.YtggafoldccikdaaPAllx35
namespace Go.Proofs.Ytggafoldccikdaa.PAll
open Go.RowKit Go.Proofs.YtggafoldccikdaaW.PrintWords Go.Proofs.YtggafoldccikdaaW.PrintLast Go.Proofs.YtggafoldccikdaaW.PrintMore
attribute [local go_sem] max2_int min2_int max_two min_two max_three min_three max_four min_four
set_option linter.unusedVariables false
set_option linter.unusedSimpArgs false
attribute [local irreducible] Calls

attribute [local go_sem high] eqA30
/-! ### mapmakerref11_Simple: function 13 -/
mutual
def mapmakerref11_Simple.j0 : Nat → List (S30) → Int → Bool → Option (Bool)
 | 0, _, _, _ => none
 | k + 1, x0, x3, x19 => if x19 = true then (some false) else (mapmakerref11_Simple.l0 k x0 x3 0)
def mapmakerref11_Simple.l0 : Nat → List (S30) → Int → Int → Option (Bool)
 | 0, _, _, _ => none
 | k + 1, x0, x3, x4 => if x4 < x3 then (mapmakerref11_Simple.l1 k x0 x3 x4 0) else ((mapmakerref11_Segs.f k x0).bind fun t303 => (mapmakerref11_Simple.l2 k x3 t303 0))
def mapmakerref11_Simple.l1 : Nat → List (S30) → Int → Int → Int → Option (Bool)
 | 0, _, _, _, _ => none
 | k + 1, x0, x3, x4, x5 => if x5 < x4 then (if 0 ≤ x4 then (if x4 < (x0.length : Int) then (if 0 ≤ x5 then (if x5 < (x0.length : Int) then (if (((rd_T30 x0 x4).f0) == ((rd_T30 x0 x5).f0) && (((rd_T30 x0 x4).f1) == ((rd_T30 x0 x5).f1))) = true then (some false) else (mapmakerref11_Simple.l1 k x0 x3 x4 (wrap64 (x5 + 1)))) else (none)) else (none)) else (none)) else (none)) else (mapmakerref11_Simple.l0 k x0 x3 (wrap64 (x4 + 1)))
def mapmakerref11_Simple.l2 : Nat → Int → List (S45) → Int → Option (Bool)
 | 0, _, _, _ => none
 | k + 1, x3, x6, x7 => if x7 < x3 then (mapmakerref11_Simple.l3 k x3 x6 x7 0) else (some true)
def mapmakerref11_Simple.l3 : Nat → Int → List (S45) → Int → Int → Option (Bool)
 | 0, _, _, _, _ => none
 | k + 1, x3, x6, x7, x8 => if x8 < x7 then (if (wrap64 (x7 - x8)) = 1 then (if 0 ≤ x7 then (if x7 < (x6.length : Int) then (if 0 ≤ x8 then (if x8 < (x6.length : Int) then ((mapmakerref09_Relate.f k ((rd_T45 x6 x7).f0.f0) ((rd_T45 x6 x7).f0.f1) ((rd_T45 x6 x7).f1.f0) ((rd_T45 x6 x7).f1.f1) ((rd_T45 x6 x8).f0.f0) ((rd_T45 x6 x8).f0.f1) ((rd_T45 x6 x8).f1.f0) ((rd_T45 x6 x8).f1.f1)).bind fun t308 => (if t308 = 1 then (mapmakerref11_Simple.l3 k x3 x6 x7 (wrap64 (x8 + 1))) else (some false))) else (none)) else (none)) else (none)) else (none)) else (if 0 ≤ x7 then (if x7 < (x6.length : Int) then (if 0 ≤ x8 then (if x8 < (x6.length : Int) then ((mapmakerref09_Relate.f k ((rd_T45 x6 x7).f0.f0) ((rd_T45 x6 x7).f0.f1) ((rd_T45 x6 x7).f1.f0) ((rd_T45 x6 x7).f1.f1) ((rd_T45 x6 x8).f0.f0) ((rd_T45 x6 x8).f0.f1) ((rd_T45 x6 x8).f1.f0) ((rd_T45 x6 x8).f1.f1)).bind fun t311 => (if (wrap64 (x7 - x8)) = (wrap64 (x3 - 1)) then (if t311 = 1 then (if ((wrap64 (x7 - x8)) = (wrap64 (x3 - 1))) then (mapmakerref11_Simple.l3 k x3 x6 x7 (wrap64 (x8 + 1))) else (if t311 = 0 then (mapmakerref11_Simple.l3 k x3 x6 x7 (wrap64 (x8 + 1))) else (some false))) else (some false)) else (if ((wrap64 (x7 - x8)) = (wrap64 (x3 - 1))) then (mapmakerref11_Simple.l3 k x3 x6 x7 (wrap64 (x8 + 1))) else (if t311 = 0 then (mapmakerref11_Simple.l3 k x3 x6 x7 (wrap64 (x8 + 1))) else (some false))))) else (none)) else (none)) else (none)) else (none))) else (mapmakerref11_Simple.l2 k x3 x6 (wrap64 (x7 + 1)))
end
def mapmakerref11_Simple.f (k : Nat) (l0 : List (S30)) : Option (Bool) := if (l0.length : Int) < 3 then (mapmakerref11_Simple.j0 k l0 (l0.length : Int) true) else ((mapmakerref08_All.f k l0).bind fun t300 => (mapmakerref11_Simple.j0 k l0 (l0.length : Int) (!t300)))
theorem mapmakerref11_Simple.mono_l : ∀ k, (∀ y0 y1 y2, LeO (mapmakerref11_Simple.j0 k y0 y1 y2) (mapmakerref11_Simple.j0 (k + 1) y0 y1 y2)) ∧ (∀ y0 y1 y2, LeO (mapmakerref11_Simple.l0 k y0 y1 y2) (mapmakerref11_Simple.l0 (k + 1) y0 y1 y2)) ∧ (∀ y0 y1 y2 y3, LeO (mapmakerref11_Simple.l1 k y0 y1 y2 y3) (mapmakerref11_Simple.l1 (k + 1) y0 y1 y2 y3)) ∧ (∀ y0 y1 y2, LeO (mapmakerref11_Simple.l2 k y0 y1 y2) (mapmakerref11_Simple.l2 (k + 1) y0 y1 y2)) ∧ (∀ y0 y1 y2 y3, LeO (mapmakerref11_Simple.l3 k y0 y1 y2 y3) (mapmakerref11_Simple.l3 (k + 1) y0 y1 y2 y3))
 | 0 => ⟨fun _ _ _ r h => by simp [mapmakerref11_Simple.j0] at h, fun _ _ _ r h => by simp [mapmakerref11_Simple.l0] at h, fun _ _ _ _ r h => by simp [mapmakerref11_Simple.l1] at h, fun _ _ _ r h => by simp [mapmakerref11_Simple.l2] at h, fun _ _ _ _ r h => by simp [mapmakerref11_Simple.l3] at h⟩
 | k + 1 => by
  obtain ⟨ih0, ih1, ih2, ih3, ih4⟩ := mapmakerref11_Simple.mono_l k
  refine ⟨?_, ?_, ?_, ?_, ?_⟩
  ·intro y0 y1 y2
   unfold mapmakerref11_Simple.j0
   repeat' first
   | (with_reducible exact ih0 _ _ _)
   | (with_reducible exact ih1 _ _ _)
   | (with_reducible exact ih2 _ _ _ _)
   | (with_reducible exact ih3 _ _ _)
   | (with_reducible exact ih4 _ _ _ _)
   | (with_reducible exact mapmakerref08_All.mono _ _)
   | (with_reducible exact mapmakerref09_Relate.mono _ _ _ _ _ _ _ _ _)
   | (with_reducible exact mapmakerref11_Segs.mono _ _)
   | (with_reducible exact LeO.refl _)
   | (with_reducible exact LeO.none _)
   | (with_reducible refine LeO.ite ?_ ?_)
   | (with_reducible refine LeO.bind ?_ (fun _ => ?_))
   | exact ih0 _ _ _
   | exact ih1 _ _ _
   | exact ih2 _ _ _ _
   | exact ih3 _ _ _
   | exact ih4 _ _ _ _
   | exact mapmakerref08_All.mono _ _
   | exact mapmakerref09_Relate.mono _ _ _ _ _ _ _ _ _
   | exact mapmakerref11_Segs.mono _ _
   | exact LeO.none _
   | refine LeO.ite ?_ ?_
   | refine LeO.bind ?_ (fun _ => ?_)
  ·intro y0 y1 y2
   unfold mapmakerref11_Simple.l0
   repeat' first
   | (with_reducible exact ih0 _ _ _)
   | (with_reducible exact ih1 _ _ _)
   | (with_reducible exact ih2 _ _ _ _)
   | (with_reducible exact ih3 _ _ _)
   | (with_reducible exact ih4 _ _ _ _)
   | (with_reducible exact mapmakerref08_All.mono _ _)
   | (with_reducible exact mapmakerref09_Relate.mono _ _ _ _ _ _ _ _ _)
   | (with_reducible exact mapmakerref11_Segs.mono _ _)
   | (with_reducible exact LeO.refl _)
   | (with_reducible exact LeO.none _)
   | (with_reducible refine LeO.ite ?_ ?_)
   | (with_reducible refine LeO.bind ?_ (fun _ => ?_))
   | exact ih0 _ _ _
   | exact ih1 _ _ _
   | exact ih2 _ _ _ _
   | exact ih3 _ _ _
   | exact ih4 _ _ _ _
   | exact mapmakerref08_All.mono _ _
   | exact mapmakerref09_Relate.mono _ _ _ _ _ _ _ _ _
   | exact mapmakerref11_Segs.mono _ _
   | exact LeO.none _
   | refine LeO.ite ?_ ?_
   | refine LeO.bind ?_ (fun _ => ?_)
  ·intro y0 y1 y2 y3
   unfold mapmakerref11_Simple.l1
   repeat' first
   | (with_reducible exact ih0 _ _ _)
   | (with_reducible exact ih1 _ _ _)
   | (with_reducible exact ih2 _ _ _ _)
   | (with_reducible exact ih3 _ _ _)
   | (with_reducible exact ih4 _ _ _ _)
   | (with_reducible exact mapmakerref08_All.mono _ _)
   | (with_reducible exact mapmakerref09_Relate.mono _ _ _ _ _ _ _ _ _)
   | (with_reducible exact mapmakerref11_Segs.mono _ _)
   | (with_reducible exact LeO.refl _)
   | (with_reducible exact LeO.none _)
   | (with_reducible refine LeO.ite ?_ ?_)
   | (with_reducible refine LeO.bind ?_ (fun _ => ?_))
   | exact ih0 _ _ _
   | exact ih1 _ _ _
   | exact ih2 _ _ _ _
   | exact ih3 _ _ _
   | exact ih4 _ _ _ _
   | exact mapmakerref08_All.mono _ _
   | exact mapmakerref09_Relate.mono _ _ _ _ _ _ _ _ _
   | exact mapmakerref11_Segs.mono _ _
   | exact LeO.none _
   | refine LeO.ite ?_ ?_
   | refine LeO.bind ?_ (fun _ => ?_)
  ·intro y0 y1 y2
   unfold mapmakerref11_Simple.l2
   repeat' first
   | (with_reducible exact ih0 _ _ _)
   | (with_reducible exact ih1 _ _ _)
   | (with_reducible exact ih2 _ _ _ _)
   | (with_reducible exact ih3 _ _ _)
   | (with_reducible exact ih4 _ _ _ _)
   | (with_reducible exact mapmakerref08_All.mono _ _)
   | (with_reducible exact mapmakerref09_Relate.mono _ _ _ _ _ _ _ _ _)
   | (with_reducible exact mapmakerref11_Segs.mono _ _)
   | (with_reducible exact LeO.refl _)
   | (with_reducible exact LeO.none _)
   | (with_reducible refine LeO.ite ?_ ?_)
   | (with_reducible refine LeO.bind ?_ (fun _ => ?_))
   | exact ih0 _ _ _
   | exact ih1 _ _ _
   | exact ih2 _ _ _ _
   | exact ih3 _ _ _
   | exact ih4 _ _ _ _
   | exact mapmakerref08_All.mono _ _
   | exact mapmakerref09_Relate.mono _ _ _ _ _ _ _ _ _
   | exact mapmakerref11_Segs.mono _ _
   | exact LeO.none _
   | refine LeO.ite ?_ ?_
   | refine LeO.bind ?_ (fun _ => ?_)
  ·intro y0 y1 y2 y3
   unfold mapmakerref11_Simple.l3
   repeat' first
   | (with_reducible exact ih0 _ _ _)
   | (with_reducible exact ih1 _ _ _)
   | (with_reducible exact ih2 _ _ _ _)
   | (with_reducible exact ih3 _ _ _)
   | (with_reducible exact ih4 _ _ _ _)
   | (with_reducible exact mapmakerref08_All.mono _ _)
   | (with_reducible exact mapmakerref09_Relate.mono _ _ _ _ _ _ _ _ _)
   | (with_reducible exact mapmakerref11_Segs.mono _ _)
   | (with_reducible exact LeO.refl _)
   | (with_reducible exact LeO.none _)
   | (with_reducible refine LeO.ite ?_ ?_)
   | (with_reducible refine LeO.bind ?_ (fun _ => ?_))
   | exact ih0 _ _ _
   | exact ih1 _ _ _
   | exact ih2 _ _ _ _
   | exact ih3 _ _ _
   | exact ih4 _ _ _ _
   | exact mapmakerref08_All.mono _ _
   | exact mapmakerref09_Relate.mono _ _ _ _ _ _ _ _ _
   | exact mapmakerref11_Segs.mono _ _
   | exact LeO.none _
   | refine LeO.ite ?_ ?_
   | refine LeO.bind ?_ (fun _ => ?_)
theorem mapmakerref11_Simple.mono : ∀ a0 k, LeO (mapmakerref11_Simple.f k a0) (mapmakerref11_Simple.f (k + 1) a0) := by
 intro a0 k
 obtain ⟨ih0, ih1, ih2, ih3, ih4⟩ := mapmakerref11_Simple.mono_l k
 unfold mapmakerref11_Simple.f
 repeat' first
   | (with_reducible exact ih0 _ _ _)
   | (with_reducible exact ih1 _ _ _)
   | (with_reducible exact ih2 _ _ _ _)
   | (with_reducible exact ih3 _ _ _)
   | (with_reducible exact ih4 _ _ _ _)
   | (with_reducible exact mapmakerref08_All.mono _ _)
   | (with_reducible exact mapmakerref09_Relate.mono _ _ _ _ _ _ _ _ _)
   | (with_reducible exact mapmakerref11_Segs.mono _ _)
   | (with_reducible exact LeO.refl _)
   | (with_reducible exact LeO.none _)
   | (with_reducible refine LeO.ite ?_ ?_)
   | (with_reducible refine LeO.bind ?_ (fun _ => ?_))
   | exact ih0 _ _ _
   | exact ih1 _ _ _
   | exact ih2 _ _ _ _
   | exact ih3 _ _ _
   | exact ih4 _ _ _ _
   | exact mapmakerref08_All.mono _ _
   | exact mapmakerref09_Relate.mono _ _ _ _ _ _ _ _ _
   | exact mapmakerref11_Segs.mono _ _
   | exact LeO.none _
   | refine LeO.ite ?_ ?_
   | refine LeO.bind ?_ (fun _ => ?_)
def mapmakerref11_Simple.T10 : Bool × List (List Nat × List Nat) := (true, [([], []), ([], []), ([0, 1], [0, 1]), ([2], [2]), ([], []), ([], []), ([4, 5], [4, 5]), ([6], [6]), ([3, 7], [3, 7])])
def mapmakerref11_Simple.B10 : List Nat := [0, 0, 3, 7, 0, 0, 48, 112, 255]
theorem mapmakerref11_Simple.tab10 : rtab .any (opsOf Try.f13 10) = mapmakerref11_Simple.T10 := by kernel_rfl
theorem mapmakerref11_Simple.bits10 : waitsOk mapmakerref11_Simple.T10.2 mapmakerref11_Simple.B10 = true := by kernel_rfl
def mapmakerref11_Simple.T20 : Bool × List (List Nat × List Nat) := (true, [([], []), ([], []), ([0, 1], [0, 1]), ([2], [2]), ([], []), ([], []), ([4, 5], [4, 5]), ([6], [6]), ([3, 7], [3, 7]), ([8, 8, 0, 1, 2, 3, 4, 5, 6, 7, 8], [8])])
def mapmakerref11_Simple.B20 : List Nat := [0, 0, 3, 7, 0, 0, 48, 112, 255, 511]
theorem mapmakerref11_Simple.tab20 : rtab .any (opsOf Try.f13 20) = mapmakerref11_Simple.T20 := by kernel_rfl
theorem mapmakerref11_Simple.bits20 : waitsOk mapmakerref11_Simple.T20.2 mapmakerref11_Simple.B20 = true := by kernel_rfl
set_option maxHeartbeats 8000000 in
set_option maxRecDepth 100000 in
theorem mapmakerref11_Simple.calls (k : Nat) (A0 : Option Addr) (c0 : Nat) (l0 : List (S30)) (r : Bool) (w : World) (hr0 : Kd.C k30 w A0 l0.length l0) (hc0 : l0.length ≤ c0) (h : mapmakerref11_Simple.f k l0 = some r) :
  Calls Try.prog 13 #[.slice A0 l0.length c0] w fun e w' => e = .returned (.bool r) ∧ Below w.heap.size w w' := by
 have hu30 := Try.underlying30; have hu45 := Try.underlying45; have HR0 := Aside0.mk hr0; have HC0 := Aside0.mk hc0; clear hr0 hc0; have HB := Aside0.mk (Below.refl w.heap.size w); have H : (if (l0.length : Int) < 3 then (mapmakerref11_Simple.j0 k l0 (l0.length : Int) true) else ((mapmakerref08_All.f k l0).bind fun t300 => (mapmakerref11_Simple.j0 k l0 (l0.length : Int) (!t300)))) = some r := h; clear h; have HC2 := Aside0.mk H; clear H
 go_enter Try.func13, Try.ntmps13
 go_upto_region 2 with (fail)
 go_cut [19] (fun v19 wc => ∃ (kq : Nat) (x19_1 : Bool), v19 = .bool x19_1 ∧ Aside0 (mapmakerref11_Simple.j0 kq l0 (l0.length : Int) x19_1 = some r) ∧ Aside0 (kq ≤ k) ∧ Aside0 (Below w.heap.size w wc))
 case first =>
  have H := HC2.out; clear HC2
  by_cases c3 : (l0.length : Int) < 3
  ·rw [if_pos c3] at H
   have c3b0 : decide ((l0.length : Int) < 3) = true := decide_eq_true c3; have c3b1 : decide (l0.length < 3) = true := decide_eq_true (by omega); clear c3; (first | rw [c3b0] | (simp only [i64_w, i32_w]; rw [c3b0]) | skip); have H' := Aside0.mk H; clear H
   go_wp2
   go_meet
   case rel => exact ⟨_, (true), (by first | rfl | (simp; done) | (simp [*]; done)), H', ⟨by first | omega | exact Nat.le_refl _⟩, ⟨bB HB.out⟩⟩
  ·rw [if_neg c3] at H
   have c3b0 : decide ((l0.length : Int) < 3) = false := decide_eq_false c3; have c3b1 : decide (l0.length < 3) = false := decide_eq_false (by omega); clear c3; (first | rw [c3b0] | (simp only [i64_w, i32_w]; rw [c3b0]) | skip); replace H := Option.bind_eq_some_iff.mp H; obtain ⟨t300, A40, H⟩ := H; replace H : (mapmakerref11_Simple.j0 k l0 (l0.length : Int) (!t300)) = some r := H; have A4 := Aside0.mk A40; clear A40; have H' := Aside0.mk H; clear H
   go_wp2_with (first | (go_at_call 31; (with_reducible refine (mapmakerref08_All.calls k _ _ l0 t300 _ ?side1 ?side2 A4.out).mono ?_); (case side1 => repeat (first | exact (Kd.C_below HR0.out HB.out) | (with_reducible refine Kd.C_alloc ?_ _) | (with_reducible refine Kd.C_drewN ?_ _) | (with_reducible refine Kd.C_drew ?_))); (case side2 => exact HC0.out); rintro e w5 ⟨rfl, hb⟩; have n0_ := Aside0.mk (below_step (bB HB.out) hb); clear HB; have HB := n0_; clear n0_; (try clear hb); (try clear hb2); (try clear hk); (try clear hi)))
   go_meet
   case rel => exact ⟨_, (!t300), (by first | rfl | (simp; done) | (simp [*]; done)), H', ⟨by first | omega | exact Nat.le_refl _⟩, ⟨bB HB.out⟩⟩
 case rest =>
  clear HC2
  try clear c1
  try clear p2
  try clear c3
  try clear c3b0
  try clear c3b1
  obtain ⟨kq, x19_1, rfl, HA, HJ1, HB⟩ := hcut
  cases kq with
  | zero => exact absurd HA.out (by simp [mapmakerref11_Simple.j0])
  | succ kj1 =>
   have H := HA.out; clear HA; simp only [mapmakerref11_Simple.j0] at H
   by_cases c6 : x19_1 = true
   ·subst c6; have H1 : (some false) = some r := by rw [if_pos rfl] at H; exact H
    clear H; have H := H1; clear H1; obtain rfl := Option.some.inj H
    go_wp2
    go_ret
    exact ⟨by first | rfl | (simp [errW_none, errW_some] <;> rfl) | (simp [*, errW_none, errW_some] <;> rfl), bB HB.out⟩
   ·replace c6 := Bool.eq_false_iff.mpr c6; subst c6; have H1 : (mapmakerref11_Simple.l0 kj1 l0 (l0.length : Int) 0) = some r := by rw [if_neg (show ¬ (false = true) by decide)] at H; exact H
    clear H; have H := H1; clear H1; have H' := Aside0.mk H; clear H
    go_wp2
    go_loopg [4] kj1 (fun kq v4 w' => ∃ (x4_2 : Int), v4 = .int .i64 x4_2 ∧ Aside0 (mapmakerref11_Simple.l0 kq l0 (l0.length : Int) x4_2 = some r) ∧ Aside0 (kq ≤ kj1) ∧ Aside0 (Below w.heap.size w w'))
    case atStart => exact ⟨(0), (by first | rfl | (simp; done) | (simp [*]; done)), H', ⟨Nat.le_refl _⟩, ⟨bB HB.out⟩⟩
    case round =>
     clear H'
     try clear c1
     try clear p2
     try clear c3
     try clear c3b0
     try clear c3b1
     try clear c6
     try clear p2
     obtain ⟨x4_2, rfl, HA, HK2, HB⟩ := hrel
     cases gk with
     | zero => exact absurd HA.out (by simp [mapmakerref11_Simple.l0])
     | succ k2 =>
      have H := HA.out; clear HA; simp only [mapmakerref11_Simple.l0] at H
      by_cases c7 : x4_2 < (l0.length : Int)
      ·rw [if_pos c7] at H
       have c7b0 : decide (x4_2 < (l0.length : Int)) = true := decide_eq_true c7; clear c7; have H' := Aside0.mk H; clear H
       go_wp2
       go_loopg [5] k2 (fun kq v5 w' => ∃ (x5_3 : Int), v5 = .int .i64 x5_3 ∧ Aside0 (mapmakerref11_Simple.l1 kq l0 (l0.length : Int) x4_2 x5_3 = some r) ∧ Aside0 (kq ≤ k2) ∧ Aside0 (Below w.heap.size w w'))
       case atStart => exact ⟨(0), (by first | rfl | (simp; done) | (simp [*]; done)), H', ⟨Nat.le_refl _⟩, ⟨bB HB.out⟩⟩
       case round =>
        clear H'
        try clear c1
        try clear p2
        try clear c3
        try clear c3b0
        try clear c3b1
        try clear c6
        try clear c7
        try clear c7b0
        try clear p2
        obtain ⟨x5_3, rfl, HA, HK3, HB⟩ := hrel
        cases gk with
        | zero => exact absurd HA.out (by simp [mapmakerref11_Simple.l1])
        | succ k3 =>
         have H := HA.out; clear HA; simp only [mapmakerref11_Simple.l1] at H
         by_cases c8 : x5_3 < x4_2
         ·rw [if_pos c8] at H
          have c8b0 : decide (x5_3 < x4_2) = true := decide_eq_true c8; clear c8
          by_cases c9 : 0 ≤ x4_2
          ·rw [if_pos c9] at H
           have c9b0 : decide (0 ≤ x4_2) = true := decide_eq_true c9; clear c9
           by_cases c10 : x4_2 < (l0.length : Int)
           ·rw [if_pos c10] at H
            have c10b0 : decide (x4_2 < (l0.length : Int)) = true := decide_eq_true c10; clear c10
            by_cases c11 : 0 ≤ x5_3
            ·rw [if_pos c11] at H
             have c11b0 : decide (0 ≤ x5_3) = true := decide_eq_true c11; clear c11
             by_cases c12 : x5_3 < (l0.length : Int)
             ·rw [if_pos c12] at H
              have c12b0 : decide (x5_3 < (l0.length : Int)) = true := decide_eq_true c12; clear c12
              by_cases c13 : (((rd_T30 l0 x4_2).f0) == ((rd_T30 l0 x5_3).f0) && (((rd_T30 l0 x4_2).f1) == ((rd_T30 l0 x5_3).f1))) = true
              ·rw [if_pos c13] at H
               have c13b0 : (((rd_T30 l0 x4_2).f0) == ((rd_T30 l0 x5_3).f0) && (((rd_T30 l0 x4_2).f1) == ((rd_T30 l0 x5_3).f1))) = true := c13; (try (have c13b1 : decide (((rd_T30 l0 x4_2).f0) = ((rd_T30 l0 x5_3).f0) && (((rd_T30 l0 x4_2).f1) == ((rd_T30 l0 x5_3).f1))) = true := by simpa using c13)); (try (have c13b2 : (((rd_T30 l0 x4_2).f0) == ((rd_T30 l0 x5_3).f0) && (((rd_T30 l0 x4_2).f1) == ((rd_T30 l0 x5_3).f1))) = true := by simpa using c13)); clear c13; obtain rfl := Option.some.inj H
               try go_wp2
               have n0_ := Aside0.mk (below_drew1 HB.out); clear HB; have HB := n0_; clear n0_; have p301 : 0 ≤ (x4_2 : Int) := of_decide_eq_true (by first | (with_reducible assumption) | assumption); have q301 : x4_2 < (l0.length : Int) := of_decide_eq_true (by first | (with_reducible assumption) | assumption); obtain ⟨ad301, e301, hx301_0, hx301_1⟩ := at_T30 HR0.out x4_2 p301 q301; have hw301_1 := hx301_1; have hw301_0 := hx301_0
               cases e301
               replace hx301_0 := (HB.out.cell (World.block_lt_of_cell? w _ hx301_0)).trans hx301_0; replace hx301_1 := (HB.out.cell (World.block_lt_of_cell? w _ hx301_1)).trans hx301_1; replace p301 := eq_true p301; replace q301 := eq_true q301; have p302 : 0 ≤ (x5_3 : Int) := of_decide_eq_true (by first | (with_reducible assumption) | assumption); have q302 : x5_3 < (l0.length : Int) := of_decide_eq_true (by first | (with_reducible assumption) | assumption); obtain ⟨ad302, e302, hx302_0, hx302_1⟩ := at_T30 HR0.out x5_3 p302 q302; have hw302_1 := hx302_1; have hw302_0 := hx302_0; obtain rfl : ad301 = ad302 := (by injection e302); replace hx302_0 := (HB.out.cell (World.block_lt_of_cell? w _ hx302_0)).trans hx302_0; replace hx302_1 := (HB.out.cell (World.block_lt_of_cell? w _ hx302_1)).trans hx302_1; replace p302 := eq_true p302; replace q302 := eq_true q302; refine start_ (n := 9) (S := fun w' => w'.cell? (ad301.add ((x4_2).toNat * 2)) = some (.int .i64 ((rd_T30 l0 x4_2).f0)) ∧ w'.cell? ⟨(ad301.add ((x4_2).toNat * 2)).block, (ad301.add ((x4_2).toNat * 2)).off + 1, none⟩ = some (.int .i64 ((rd_T30 l0 x4_2).f1)) ∧ w'.cell? (ad301.add ((x5_3).toNat * 2)) = some (.int .i64 ((rd_T30 l0 x5_3).f0)) ∧ w'.cell? ⟨(ad301.add ((x5_3).toNat * 2)).block, (ad301.add ((x5_3).toNat * 2)).off + 1, none⟩ = some (.int .i64 ((rd_T30 l0 x5_3).f1))) (ds := []) #[F, F, F, F, F, F, F, F, F] (by kernel_rfl) rfl rfl ⟨((HB.out.cell (World.block_lt_of_cell? w _ hw301_0)).trans hw301_0), ((HB.out.cell (World.block_lt_of_cell? w _ hw301_1)).trans hw301_1), ((HB.out.cell (World.block_lt_of_cell? w _ hw302_0)).trans hw302_0), ((HB.out.cell (World.block_lt_of_cell? w _ hw302_1)).trans hw302_1)⟩ (fun hHeld => ?_); refine with_tabW mapmakerref11_Simple.tab10 mapmakerref11_Simple.bits10 (fun HT_ HW_ => ?_); generalize wr.drew = w14 at HB hx301_0 hx301_1 hx302_0 hx302_1 hHeld ⊢
               refine pure_ (i := 0) (N := some 30) (v := ?_) (a' := ?_) #[T, F, F, F, F, F, F, F, F] rfl rfl (any_of HT_.out (by kernel_rfl)) (fun _ _ _ h => h) (Or.inl ⟨by rfl, ?_⟩) ?_ ?_; rotate_left
               ·intro w'; go_simp; with_reducible rfl
               rotate_left
               ·go_simp
                rfl
               refine pure_ (i := 1) (N := some 31) (v := ?_) (a' := ?_) #[T, T, F, F, F, F, F, F, F] rfl rfl (any_of HT_.out (by kernel_rfl)) (fun _ _ _ h => h) (Or.inl ⟨by rfl, ?_⟩) ?_ ?_; rotate_left
               ·intro w'; go_simp; with_reducible rfl
               rotate_left
               ·go_simp
                rfl
               refine pure_ (i := 2) (N := some 32) (v := ?_) (a' := ?_) #[T, T, T, F, F, F, F, F, F] rfl rfl (any_of HT_.out (by kernel_rfl)) (fun _ _ _ h => h) (Or.inl ⟨by rfl, ?_⟩) ?_ ?_; rotate_left
               ·intro w'; go_simp; with_reducible rfl
               rotate_left
               ·go_simp
                rfl
               refine pure_ (i := 4) (N := some 34) (v := ?_) (a' := ?_) #[T, T, T, F, T, F, F, F, F] rfl rfl (any_of HT_.out (by kernel_rfl)) (fun _ _ _ h => h) (Or.inl ⟨by rfl, ?_⟩) ?_ ?_; rotate_left
               ·intro w'; go_simp; with_reducible rfl
               rotate_left
               ·go_simp
                rfl
               refine pure_ (i := 5) (N := some 35) (v := ?_) (a' := ?_) #[T, T, T, F, T, T, F, F, F] rfl rfl (any_of HT_.out (by kernel_rfl)) (fun _ _ _ h => h) (Or.inl ⟨by rfl, ?_⟩) ?_ ?_; rotate_left
               ·intro w'; go_simp; with_reducible rfl
               rotate_left
               ·go_simp
                rfl
               refine pure_ (i := 6) (N := some 36) (v := ?_) (a' := ?_) #[T, T, T, F, T, T, T, F, F] rfl rfl (any_of HT_.out (by kernel_rfl)) (fun _ _ _ h => h) (Or.inl ⟨by rfl, ?_⟩) ?_ ?_; rotate_left
               ·intro w'; go_simp; with_reducible rfl
               rotate_left
               ·go_simp
                rfl
               refine take_ (i := 3) (N := some 33) (v := ?_) (a' := ?_) #[T, T, T, T, T, T, T, F, F] rfl rfl (take_ofW HT_.out HW_.out (by kernel_rfl)) (fun _ _ _ h => h) (Or.inl ⟨by rfl, ?_⟩) hHeld ?_ ?_; rotate_left
               ·rintro w' ⟨s0, s1, s2, s3⟩; go_simp; with_reducible rfl
               rotate_left
               ·go_simp
                rfl
               refine take_ (i := 7) (N := some 37) (v := ?_) (a' := ?_) #[T, T, T, T, T, T, T, T, F] rfl rfl (take_ofW HT_.out HW_.out (by kernel_rfl)) (fun _ _ _ h => h) (Or.inl ⟨by rfl, ?_⟩) hHeld ?_ ?_; rotate_left
               ·rintro w' ⟨s0, s1, s2, s3⟩; go_simp; with_reducible rfl
               rotate_left
               ·go_simp
                rfl
               refine pure_ (i := 8) (N := some 38) (v := ?_) (a' := ?_) #[T, T, T, T, T, T, T, T, T] rfl rfl (any_of HT_.out (by kernel_rfl)) (fun _ _ _ h => h) (Or.inl ⟨by rfl, ?_⟩) ?_ ?_; rotate_left
               ·intro w'; go_simp; with_reducible rfl
               rotate_left
               ·go_simp
                rfl
               refine done_ (done_of HT_.out (by kernel_rfl)) ?_
               try go_wp2
               go_ret
               exact ⟨by first | rfl | (simp [errW_none, errW_some] <;> rfl) | (simp [*, errW_none, errW_some] <;> rfl), bB HB.out⟩
              ·rw [if_neg c13] at H
               have c13b0 : (((rd_T30 l0 x4_2).f0) == ((rd_T30 l0 x5_3).f0) && (((rd_T30 l0 x4_2).f1) == ((rd_T30 l0 x5_3).f1))) = false := by simpa using c13
               (try (have c13b1 : decide (((rd_T30 l0 x4_2).f0) = ((rd_T30 l0 x5_3).f0) && (((rd_T30 l0 x4_2).f1) == ((rd_T30 l0 x5_3).f1))) = false := by simpa using c13)); (try (have c13b2 : (((rd_T30 l0 x4_2).f0) == ((rd_T30 l0 x5_3).f0) && (((rd_T30 l0 x4_2).f1) == ((rd_T30 l0 x5_3).f1))) = false := by simpa using c13)); (try (have c13b3 : ¬ (((rd_T30 l0 x4_2).f0) = ((rd_T30 l0 x5_3).f0) && (((rd_T30 l0 x4_2).f1) == ((rd_T30 l0 x5_3).f1))) := by simpa using c13)); clear c13; have H' := Aside0.mk H; clear H
               try go_wp2
               have n0_ := Aside0.mk (below_drew1 HB.out); clear HB; have HB := n0_; clear n0_; have p301 : 0 ≤ (x4_2 : Int) := of_decide_eq_true (by first | (with_reducible assumption) | assumption); have q301 : x4_2 < (l0.length : Int) := of_decide_eq_true (by first | (with_reducible assumption) | assumption); obtain ⟨ad301, e301, hx301_0, hx301_1⟩ := at_T30 HR0.out x4_2 p301 q301; have hw301_1 := hx301_1; have hw301_0 := hx301_0
               cases e301
               replace hx301_0 := (HB.out.cell (World.block_lt_of_cell? w _ hx301_0)).trans hx301_0; replace hx301_1 := (HB.out.cell (World.block_lt_of_cell? w _ hx301_1)).trans hx301_1; replace p301 := eq_true p301; replace q301 := eq_true q301; have p302 : 0 ≤ (x5_3 : Int) := of_decide_eq_true (by first | (with_reducible assumption) | assumption); have q302 : x5_3 < (l0.length : Int) := of_decide_eq_true (by first | (with_reducible assumption) | assumption); obtain ⟨ad302, e302, hx302_0, hx302_1⟩ := at_T30 HR0.out x5_3 p302 q302; have hw302_1 := hx302_1; have hw302_0 := hx302_0; obtain rfl : ad301 = ad302 := (by injection e302); replace hx302_0 := (HB.out.cell (World.block_lt_of_cell? w _ hx302_0)).trans hx302_0; replace hx302_1 := (HB.out.cell (World.block_lt_of_cell? w _ hx302_1)).trans hx302_1; replace p302 := eq_true p302; replace q302 := eq_true q302; refine start_ (n := 9) (S := fun w' => w'.cell? (ad301.add ((x4_2).toNat * 2)) = some (.int .i64 ((rd_T30 l0 x4_2).f0)) ∧ w'.cell? ⟨(ad301.add ((x4_2).toNat * 2)).block, (ad301.add ((x4_2).toNat * 2)).off + 1, none⟩ = some (.int .i64 ((rd_T30 l0 x4_2).f1)) ∧ w'.cell? (ad301.add ((x5_3).toNat * 2)) = some (.int .i64 ((rd_T30 l0 x5_3).f0)) ∧ w'.cell? ⟨(ad301.add ((x5_3).toNat * 2)).block, (ad301.add ((x5_3).toNat * 2)).off + 1, none⟩ = some (.int .i64 ((rd_T30 l0 x5_3).f1))) (ds := []) #[F, F, F, F, F, F, F, F, F] (by kernel_rfl) rfl rfl ⟨((HB.out.cell (World.block_lt_of_cell? w _ hw301_0)).trans hw301_0), ((HB.out.cell (World.block_lt_of_cell? w _ hw301_1)).trans hw301_1), ((HB.out.cell (World.block_lt_of_cell? w _ hw302_0)).trans hw302_0), ((HB.out.cell (World.block_lt_of_cell? w _ hw302_1)).trans hw302_1)⟩ (fun hHeld => ?_); refine with_tabW mapmakerref11_Simple.tab10 mapmakerref11_Simple.bits10 (fun HT_ HW_ => ?_); generalize wr.drew = w15 at HB hx301_0 hx301_1 hx302_0 hx302_1 hHeld ⊢
               refine pure_ (i := 0) (N := some 30) (v := ?_) (a' := ?_) #[T, F, F, F, F, F, F, F, F] rfl rfl (any_of HT_.out (by kernel_rfl)) (fun _ _ _ h => h) (Or.inl ⟨by rfl, ?_⟩) ?_ ?_; rotate_left
               ·intro w'; go_simp; with_reducible rfl
               rotate_left
               ·go_simp
                rfl
               refine pure_ (i := 1) (N := some 31) (v := ?_) (a' := ?_) #[T, T, F, F, F, F, F, F, F] rfl rfl (any_of HT_.out (by kernel_rfl)) (fun _ _ _ h => h) (Or.inl ⟨by rfl, ?_⟩) ?_ ?_; rotate_left
               ·intro w'; go_simp; with_reducible rfl
               rotate_left
               ·go_simp
                rfl
               refine pure_ (i := 2) (N := some 32) (v := ?_) (a' := ?_) #[T, T, T, F, F, F, F, F, F] rfl rfl (any_of HT_.out (by kernel_rfl)) (fun _ _ _ h => h) (Or.inl ⟨by rfl, ?_⟩) ?_ ?_; rotate_left
               ·intro w'; go_simp; with_reducible rfl
               rotate_left
               ·go_simp
                rfl
               refine pure_ (i := 4) (N := some 34) (v := ?_) (a' := ?_) #[T, T, T, F, T, F, F, F, F] rfl rfl (any_of HT_.out (by kernel_rfl)) (fun _ _ _ h => h) (Or.inl ⟨by rfl, ?_⟩) ?_ ?_; rotate_left
               ·intro w'; go_simp; with_reducible rfl
               rotate_left
               ·go_simp
                rfl
               refine pure_ (i := 5) (N := some 35) (v := ?_) (a' := ?_) #[T, T, T, F, T, T, F, F, F] rfl rfl (any_of HT_.out (by kernel_rfl)) (fun _ _ _ h => h) (Or.inl ⟨by rfl, ?_⟩) ?_ ?_; rotate_left
               ·intro w'; go_simp; with_reducible rfl
               rotate_left
               ·go_simp
                rfl
               refine pure_ (i := 6) (N := some 36) (v := ?_) (a' := ?_) #[T, T, T, F, T, T, T, F, F] rfl rfl (any_of HT_.out (by kernel_rfl)) (fun _ _ _ h => h) (Or.inl ⟨by rfl, ?_⟩) ?_ ?_; rotate_left
               ·intro w'; go_simp; with_reducible rfl
               rotate_left
               ·go_simp
                rfl
               refine take_ (i := 3) (N := some 33) (v := ?_) (a' := ?_) #[T, T, T, T, T, T, T, F, F] rfl rfl (take_ofW HT_.out HW_.out (by kernel_rfl)) (fun _ _ _ h => h) (Or.inl ⟨by rfl, ?_⟩) hHeld ?_ ?_; rotate_left
               ·rintro w' ⟨s0, s1, s2, s3⟩; go_simp; with_reducible rfl
               rotate_left
               ·go_simp
                rfl
               refine take_ (i := 7) (N := some 37) (v := ?_) (a' := ?_) #[T, T, T, T, T, T, T, T, F] rfl rfl (take_ofW HT_.out HW_.out (by kernel_rfl)) (fun _ _ _ h => h) (Or.inl ⟨by rfl, ?_⟩) hHeld ?_ ?_; rotate_left
               ·rintro w' ⟨s0, s1, s2, s3⟩; go_simp; with_reducible rfl
               rotate_left
               ·go_simp
                rfl
               refine pure_ (i := 8) (N := some 38) (v := ?_) (a' := ?_) #[T, T, T, T, T, T, T, T, T] rfl rfl (any_of HT_.out (by kernel_rfl)) (fun _ _ _ h => h) (Or.inl ⟨by rfl, ?_⟩) ?_ ?_; rotate_left
               ·intro w'; go_simp; with_reducible rfl
               rotate_left
               ·go_simp
                rfl
               refine done_ (done_of HT_.out (by kernel_rfl)) ?_
               try go_wp2
               go_roundg k3
               case measure => have := HJ1.out; have := HK2.out; have := HK3.out; omega
               case rel => exact ⟨(wrap64 (x5_3 + 1)), (by first | rfl | (simp; done) | (simp [*]; done)), H', ⟨by have := HJ1.out; have := HK2.out; have := HK3.out; omega⟩, ⟨bB HB.out⟩⟩
             ·rw [if_neg c12] at H
              exact absurd H (by simp)
            ·rw [if_neg c11] at H
             exact absurd H (by simp)
           ·rw [if_neg c10] at H
            exact absurd H (by simp)
          ·rw [if_neg c9] at H
           exact absurd H (by simp)
         ·rw [if_neg c8] at H
          have c8b0 : decide (x5_3 < x4_2) = false := decide_eq_false c8; clear c8; have H' := Aside0.mk H; clear H
          go_wp2
          go_roundg k3
          case measure => have := HJ1.out; have := HK2.out; have := HK3.out; omega
          case rel => exact ⟨(wrap64 (x4_2 + 1)), (by first | rfl | (simp; done) | (simp [*]; done)), H', ⟨by have := HJ1.out; have := HK2.out; have := HK3.out; omega⟩, ⟨bB HB.out⟩⟩
      ·rw [if_neg c7] at H
       have c7b0 : decide (x4_2 < (l0.length : Int)) = false := decide_eq_false c7; clear c7; replace H := Option.bind_eq_some_iff.mp H; obtain ⟨t303, A160, H⟩ := H; replace H : (mapmakerref11_Simple.l2 k2 (l0.length : Int) t303 0) = some r := H; have A16 := Aside0.mk A160; clear A160; have H' := Aside0.mk H; clear H
       go_wp2_with (first | ((with_reducible refine gate_callee (f := 16) rfl ?_); refine goesL_ (some 40) rfl rfl Try.func16 (by kernel_rfl) rfl #[.slice A0 l0.length c0] rfl (by (try simp only [List.map_toArray, List.map_cons, List.map_nil]); first | done | rfl | (simp only [List.length_drop, List.length_take]; rfl)) ?_; (with_reducible refine (mapmakerref11_Segs.calls k2 _ _ l0 t303 _ ?side1 ?side2 A16.out).mono ?_); (case side1 => repeat (first | exact (Kd.C_below HR0.out HB.out) | (with_reducible refine Kd.C_alloc ?_ _) | (with_reducible refine Kd.C_drewN ?_ _) | (with_reducible refine Kd.C_drew ?_))); (case side2 => exact HC0.out); rintro e w17 ⟨v304, rfl, ho0, hb⟩; refine ⟨_, rfl, ?_⟩; have n0_ := Aside0.mk (Kd.R_lower ho0 (below_size (bB HB.out))); have n1_ := Aside0.mk (below_step (bB HB.out) hb); clear HB; have HO305 := n0_; have HB := n1_; clear n0_ n1_; (try clear hb); (try clear hb2); (try clear hk); (try clear hi); (try clear ho0)))
       go_loopg [7] k2 (fun kq v7 w' => ∃ (x7_3 : Int), v7 = .int .i64 x7_3 ∧ Aside0 (mapmakerref11_Simple.l2 kq (l0.length : Int) t303 x7_3 = some r) ∧ Aside0 (kq ≤ k2) ∧ Aside0 (Kd.R k45 45 w' w.heap.size (fun _ => True) v304 t303) ∧ Aside0 (Below w.heap.size w w'))
       case atStart => exact ⟨(0), (by first | rfl | (simp; done) | (simp [*]; done)), H', ⟨Nat.le_refl _⟩, ⟨by (with_reducible repeat (first | apply Kd.R_alloc | apply Kd.R_drewN | apply Kd.R_drew)); exact HO305.out⟩, ⟨bB HB.out⟩⟩
       case round =>
        clear H'
        try clear c1
        try clear p2
        try clear c3
        try clear c3b0
        try clear c3b1
        try clear p3
        try clear q3
        try clear hx3
        try clear c6
        try clear p6
        try clear c7
        try clear c7b0
        try clear c8
        try clear c8b0
        try clear c9
        try clear c9b0
        try clear c10
        try clear c10b0
        try clear c11
        try clear c11b0
        try clear c12
        try clear c12b0
        try clear c13
        try clear c13b0
        try clear c13b1
        try clear c13b2
        try clear c16
        try clear hx301_0
        try clear hx301_1
        try clear hx302_0
        try clear hx302_1
        try clear p2
        try clear p301
        try clear p302
        try clear q301
        try clear q302
        obtain ⟨x7_3, rfl, HA, HK3, HO_6, HB⟩ := hrel
        cases gk with
        | zero => exact absurd HA.out (by simp [mapmakerref11_Simple.l2])
        | succ k3 =>
         have H := HA.out; clear HA; simp only [mapmakerref11_Simple.l2] at H
         by_cases c18 : x7_3 < (l0.length : Int)
         ·rw [if_pos c18] at H
          have c18b0 : decide (x7_3 < (l0.length : Int)) = true := decide_eq_true c18; clear c18; have H' := Aside0.mk H; clear H
          go_wp2
          go_loopg [8] k3 (fun kq v8 w' => ∃ (x8_4 : Int), v8 = .int .i64 x8_4 ∧ Aside0 (mapmakerref11_Simple.l3 kq (l0.length : Int) t303 x7_3 x8_4 = some r) ∧ Aside0 (kq ≤ k3) ∧ Aside0 (Kd.R k45 45 w' w.heap.size (fun _ => True) v304 t303) ∧ Aside0 (Below w.heap.size w w'))
          case atStart => exact ⟨(0), (by first | rfl | (simp; done) | (simp [*]; done)), H', ⟨Nat.le_refl _⟩, ⟨by (with_reducible repeat (first | apply Kd.R_alloc | apply Kd.R_drewN | apply Kd.R_drew)); exact HO_6.out⟩, ⟨bB HB.out⟩⟩
          case round =>
           clear H'
           try clear c1
           try clear p2
           try clear c3
           try clear c3b0
           try clear c3b1
           try clear p3
           try clear q3
           try clear hx3
           try clear c6
           try clear p6
           try clear c7
           try clear c7b0
           try clear c8
           try clear c8b0
           try clear c9
           try clear c9b0
           try clear c10
           try clear c10b0
           try clear c11
           try clear c11b0
           try clear c12
           try clear c12b0
           try clear c13
           try clear c13b0
           try clear c13b1
           try clear c13b2
           try clear c16
           try clear c18
           try clear c18b0
           try clear hx301_0
           try clear hx301_1
           try clear hx302_0
           try clear hx302_1
           try clear p2
           try clear p3
           try clear p301
           try clear p302
           try clear p6
           try clear q3
           try clear q301
           try clear q302
           obtain ⟨x8_4, rfl, HA, HK4, HO_6, HB⟩ := hrel
           cases gk with
           | zero => exact absurd HA.out (by simp [mapmakerref11_Simple.l3])
           | succ k4 =>
            have H := HA.out; clear HA; simp only [mapmakerref11_Simple.l3] at H
            by_cases c19 : x8_4 < x7_3
            ·rw [if_pos c19] at H
             have c19b0 : decide (x8_4 < x7_3) = true := decide_eq_true c19; clear c19
             by_cases c20 : (wrap64 (x7_3 - x8_4)) = 1
             ·rw [if_pos c20] at H
              have c20b0 : ((wrap64 (x7_3 - x8_4)) == 1) = true := beq_iff_eq.mpr c20; have c20b1 : ((wrap64 (x7_3 - x8_4)) != 1) = false := bne_eq_false_iff_eq.mpr c20; clear c20
              by_cases c21 : 0 ≤ x7_3
              ·rw [if_pos c21] at H
               have c21b0 : decide (0 ≤ x7_3) = true := decide_eq_true c21; clear c21
               by_cases c22 : x7_3 < (t303.length : Int)
               ·rw [if_pos c22] at H
                have c22b0 : decide (x7_3 < (t303.length : Int)) = true := decide_eq_true c22; clear c22
                by_cases c23 : 0 ≤ x8_4
                ·rw [if_pos c23] at H
                 have c23b0 : decide (0 ≤ x8_4) = true := decide_eq_true c23; clear c23
                 by_cases c24 : x8_4 < (t303.length : Int)
                 ·rw [if_pos c24] at H
                  have c24b0 : decide (x8_4 < (t303.length : Int)) = true := decide_eq_true c24; clear c24; replace H := Option.bind_eq_some_iff.mp H; obtain ⟨t308, A250, H⟩ := H; replace H : (if t308 = 1 then (mapmakerref11_Simple.l3 k4 (l0.length : Int) t303 x7_3 (wrap64 (x8_4 + 1))) else (some false)) = some r := H; have A25 := Aside0.mk A250; clear A250
                  by_cases c26 : t308 = 1
                  ·rw [if_pos c26] at H
                   have c26b0 : (t308 == 1) = true := beq_iff_eq.mpr c26; have c26b1 : (t308 != 1) = false := bne_eq_false_iff_eq.mpr c26; clear c26; have H' := Aside0.mk H; clear H
                   try go_wp2
                   have n0_ := Aside0.mk (Kd.R_drew HO_6.out); have n1_ := Aside0.mk (below_drew1 HB.out); clear HO_6 HB; have HO_6 := n0_; have HB := n1_; clear n0_ n1_; obtain ⟨Ao28, co28, eo28⟩ := Kd.R_slice HO_6.out; (first | subst eo28 | (injection eo28 with f1_ f2_ f3_; have f4_ := f1_.symm; have f5_ := f3_.symm; clear f1_ f2_ f3_; subst f4_; subst f5_)); have p306 : 0 ≤ (x7_3 : Int) := of_decide_eq_true (by first | (with_reducible assumption) | assumption); have q306 : x7_3 < (t303.length : Int) := of_decide_eq_true (by first | (with_reducible assumption) | assumption); obtain ⟨ad306, e306, hx306_0, hx306_1, hx306_2, hx306_3⟩ := at_T45 (Kd.R_reads' HO_6.out).2.2 x7_3 p306 q306
                   cases e306
                   replace p306 := eq_true p306; replace q306 := eq_true q306; have p307 : 0 ≤ (x8_4 : Int) := of_decide_eq_true (by first | (with_reducible assumption) | assumption); have q307 : x8_4 < (t303.length : Int) := of_decide_eq_true (by first | (with_reducible assumption) | assumption); obtain ⟨ad307, e307, hx307_0, hx307_1, hx307_2, hx307_3⟩ := at_T45 (Kd.R_reads' HO_6.out).2.2 x8_4 p307 q307; obtain rfl : ad306 = ad307 := (by injection e307); replace p307 := eq_true p307; replace q307 := eq_true q307; refine start_ (n := 10) (S := fun w' => w'.cell? (ad306.add ((x7_3).toNat * 4)) = some (.int .i64 ((rd_T45 t303 x7_3).f0.f0)) ∧ w'.cell? ⟨(ad306.add ((x7_3).toNat * 4)).block, (ad306.add ((x7_3).toNat * 4)).off + 1, none⟩ = some (.int .i64 ((rd_T45 t303 x7_3).f0.f1)) ∧ w'.cell? ⟨(ad306.add ((x7_3).toNat * 4)).block, (ad306.add ((x7_3).toNat * 4)).off + 2, none⟩ = some (.int .i64 ((rd_T45 t303 x7_3).f1.f0)) ∧ w'.cell? ⟨(ad306.add ((x7_3).toNat * 4)).block, (ad306.add ((x7_3).toNat * 4)).off + 3, none⟩ = some (.int .i64 ((rd_T45 t303 x7_3).f1.f1)) ∧ w'.cell? (ad306.add ((x8_4).toNat * 4)) = some (.int .i64 ((rd_T45 t303 x8_4).f0.f0)) ∧ w'.cell? ⟨(ad306.add ((x8_4).toNat * 4)).block, (ad306.add ((x8_4).toNat * 4)).off + 1, none⟩ = some (.int .i64 ((rd_T45 t303 x8_4).f0.f1)) ∧ w'.cell? ⟨(ad306.add ((x8_4).toNat * 4)).block, (ad306.add ((x8_4).toNat * 4)).off + 2, none⟩ = some (.int .i64 ((rd_T45 t303 x8_4).f1.f0)) ∧ w'.cell? ⟨(ad306.add ((x8_4).toNat * 4)).block, (ad306.add ((x8_4).toNat * 4)).off + 3, none⟩ = some (.int .i64 ((rd_T45 t303 x8_4).f1.f1))) (ds := []) #[F, F, F, F, F, F, F, F, F, F] (by kernel_rfl) rfl rfl ⟨hx306_0, hx306_1, hx306_2, hx306_3, hx307_0, hx307_1, hx307_2, hx307_3⟩ (fun hHeld => ?_); refine with_tabW mapmakerref11_Simple.tab20 mapmakerref11_Simple.bits20 (fun HT_ HW_ => ?_); generalize wr.drew = w27 at HO_6 HB hx306_0 hx306_1 hx306_2 hx306_3 hx307_0 hx307_1 hx307_2 hx307_3 hHeld ⊢
                   refine pure_ (i := 0) (N := some 63) (v := ?_) (a' := ?_) #[T, F, F, F, F, F, F, F, F, F] rfl rfl (any_of HT_.out (by kernel_rfl)) (fun _ _ _ h => h) (Or.inl ⟨by rfl, ?_⟩) ?_ ?_; rotate_left
                   ·intro w'; go_simp; with_reducible rfl
                   rotate_left
                   ·go_simp
                    rfl
                   refine pure_ (i := 1) (N := some 64) (v := ?_) (a' := ?_) #[T, T, F, F, F, F, F, F, F, F] rfl rfl (any_of HT_.out (by kernel_rfl)) (fun _ _ _ h => h) (Or.inl ⟨by rfl, ?_⟩) ?_ ?_; rotate_left
                   ·intro w'; go_simp; with_reducible rfl
                   rotate_left
                   ·go_simp
                    rfl
                   refine pure_ (i := 2) (N := some 65) (v := ?_) (a' := ?_) #[T, T, T, F, F, F, F, F, F, F] rfl rfl (any_of HT_.out (by kernel_rfl)) (fun _ _ _ h => h) (Or.inl ⟨by rfl, ?_⟩) ?_ ?_; rotate_left
                   ·intro w'; go_simp; with_reducible rfl
                   rotate_left
                   ·go_simp
                    rfl
                   refine pure_ (i := 4) (N := some 67) (v := ?_) (a' := ?_) #[T, T, T, F, T, F, F, F, F, F] rfl rfl (any_of HT_.out (by kernel_rfl)) (fun _ _ _ h => h) (Or.inl ⟨by rfl, ?_⟩) ?_ ?_; rotate_left
                   ·intro w'; go_simp; with_reducible rfl
                   rotate_left
                   ·go_simp
                    rfl
                   refine pure_ (i := 5) (N := some 68) (v := ?_) (a' := ?_) #[T, T, T, F, T, T, F, F, F, F] rfl rfl (any_of HT_.out (by kernel_rfl)) (fun _ _ _ h => h) (Or.inl ⟨by rfl, ?_⟩) ?_ ?_; rotate_left
                   ·intro w'; go_simp; with_reducible rfl
                   rotate_left
                   ·go_simp
                    rfl
                   refine pure_ (i := 6) (N := some 69) (v := ?_) (a' := ?_) #[T, T, T, F, T, T, T, F, F, F] rfl rfl (any_of HT_.out (by kernel_rfl)) (fun _ _ _ h => h) (Or.inl ⟨by rfl, ?_⟩) ?_ ?_; rotate_left
                   ·intro w'; go_simp; with_reducible rfl
                   rotate_left
                   ·go_simp
                    rfl
                   refine take_ (i := 3) (N := some 66) (v := ?_) (a' := ?_) #[T, T, T, T, T, T, T, F, F, F] rfl rfl (take_ofW HT_.out HW_.out (by kernel_rfl)) (fun _ _ _ h => h) (Or.inl ⟨by rfl, ?_⟩) hHeld ?_ ?_; rotate_left
                   ·rintro w' ⟨s0, s1, s2, s3, s4, s5, s6, s7⟩; go_simp; with_reducible rfl
                   rotate_left
                   ·go_simp
                    rfl
                   refine take_ (i := 7) (N := some 70) (v := ?_) (a' := ?_) #[T, T, T, T, T, T, T, T, F, F] rfl rfl (take_ofW HT_.out HW_.out (by kernel_rfl)) (fun _ _ _ h => h) (Or.inl ⟨by rfl, ?_⟩) hHeld ?_ ?_; rotate_left
                   ·rintro w' ⟨s0, s1, s2, s3, s4, s5, s6, s7⟩; go_simp; with_reducible rfl
                   rotate_left
                   ·go_simp
                    rfl
                   refine one_ (i := 8) (N := some 71) #[T, T, T, T, T, T, T, T, T, F] rfl rfl (one_of HT_.out (by kernel_rfl)) (by decide) (fun K hK => ?_); refine goes_ Try.func33 (by kernel_rfl) rfl #[.agg #[.int .i64 ((rd_T45 t303 x7_3).f0.f0), .int .i64 ((rd_T45 t303 x7_3).f0.f1), .int .i64 ((rd_T45 t303 x7_3).f1.f0), .int .i64 ((rd_T45 t303 x7_3).f1.f1)], .agg #[.int .i64 ((rd_T45 t303 x8_4).f0.f0), .int .i64 ((rd_T45 t303 x8_4).f0.f1), .int .i64 ((rd_T45 t303 x8_4).f1.f0), .int .i64 ((rd_T45 t303 x8_4).f1.f1)]] (by rfl) rfl rfl (by (try simp only [List.map_toArray, List.map_cons, List.map_nil]); first | done | rfl | (simp only [List.length_drop, List.length_take]; rfl)) ?_; with_reducible refine (mapmakerref09_Relate.calls k4 ((rd_T45 t303 x7_3).f0.f0) ((rd_T45 t303 x7_3).f0.f1) ((rd_T45 t303 x7_3).f1.f0) ((rd_T45 t303 x7_3).f1.f1) ((rd_T45 t303 x8_4).f0.f0) ((rd_T45 t303 x8_4).f0.f1) ((rd_T45 t303 x8_4).f1.f0) ((rd_T45 t303 x8_4).f1.f1) t308 _ A25.out).mono ?_
                   rintro e w29 ⟨rfl, hb⟩; have HS0_ := (hb.cell (World.block_lt_of_cell? _ _ (hHeld.1))).trans (hHeld.1); have HS1_ := (hb.cell (World.block_lt_of_cell? _ _ (hHeld.2.1))).trans (hHeld.2.1); have HS2_ := (hb.cell (World.block_lt_of_cell? _ _ (hHeld.2.2.1))).trans (hHeld.2.2.1); have HS3_ := (hb.cell (World.block_lt_of_cell? _ _ (hHeld.2.2.2.1))).trans (hHeld.2.2.2.1); have HS4_ := (hb.cell (World.block_lt_of_cell? _ _ (hHeld.2.2.2.2.1))).trans (hHeld.2.2.2.2.1); have HS5_ := (hb.cell (World.block_lt_of_cell? _ _ (hHeld.2.2.2.2.2.1))).trans (hHeld.2.2.2.2.2.1); have HS6_ := (hb.cell (World.block_lt_of_cell? _ _ (hHeld.2.2.2.2.2.2.1))).trans (hHeld.2.2.2.2.2.2.1); have HS7_ := (hb.cell (World.block_lt_of_cell? _ _ (hHeld.2.2.2.2.2.2.2))).trans (hHeld.2.2.2.2.2.2.2); refine ⟨_, rfl, ?_⟩; have n0_ := Aside0.mk (Kd.R_below (by (with_reducible repeat (first | apply Kd.R_alloc | apply Kd.R_drewN | apply Kd.R_drew)); exact HO_6.out) hb); have n1_ := Aside0.mk (below_step (bB HB.out) hb); clear HO_6 HB; have HO_6 := n0_; have HB := n1_; clear n0_ n1_; (try clear hb); (try clear hb2); (try clear hk); (try clear hi); refine hK.out _ _ ⟨HS0_, HS1_, HS2_, HS3_, HS4_, HS5_, HS6_, HS7_⟩ (fun hHeld => ?_); clear hK K; refine norm_ (a' := ?_) ?_ ?_; rotate_left
                   ·show Act.put _ (some 71) _ = _; go_simp; rfl
                   refine pure_ (i := 9) (N := some 10) (v := ?_) (a' := ?_) #[T, T, T, T, T, T, T, T, T, T] rfl rfl (any_of HT_.out (by kernel_rfl)) (fun _ _ _ h => h) (Or.inl ⟨by rfl, ?_⟩) ?_ ?_; rotate_left
                   ·intro w'; go_simp; with_reducible rfl
                   rotate_left
                   ·go_simp
                    rfl
                   refine done_ (done_of HT_.out (by kernel_rfl)) ?_
                   try go_wp2
                   go_roundg k4
                   case measure => have := HJ1.out; have := HK2.out; have := HK3.out; have := HK4.out; omega
                   case rel => exact ⟨(wrap64 (x8_4 + 1)), (by first | rfl | (simp; done) | (simp [*]; done)), H', ⟨by have := HJ1.out; have := HK2.out; have := HK3.out; have := HK4.out; omega⟩, ⟨by (with_reducible repeat (first | apply Kd.R_alloc | apply Kd.R_drewN | apply Kd.R_drew)); exact HO_6.out⟩, ⟨bB HB.out⟩⟩
                  ·rw [if_neg c26] at H
                   have c26b0 : (t308 == 1) = false := beq_eq_false_iff_ne.mpr c26; have c26b1 : (t308 != 1) = true := bne_iff_ne.mpr c26; obtain rfl := Option.some.inj H
                   try go_wp2
                   have n0_ := Aside0.mk (Kd.R_drew HO_6.out); have n1_ := Aside0.mk (below_drew1 HB.out); clear HO_6 HB; have HO_6 := n0_; have HB := n1_; clear n0_ n1_; obtain ⟨Ao31, co31, eo31⟩ := Kd.R_slice HO_6.out; (first | subst eo31 | (injection eo31 with f1_ f2_ f3_; have f4_ := f1_.symm; have f5_ := f3_.symm; clear f1_ f2_ f3_; subst f4_; subst f5_)); have p306 : 0 ≤ (x7_3 : Int) := of_decide_eq_true (by first | (with_reducible assumption) | assumption); have q306 : x7_3 < (t303.length : Int) := of_decide_eq_true (by first | (with_reducible assumption) | assumption); obtain ⟨ad306, e306, hx306_0, hx306_1, hx306_2, hx306_3⟩ := at_T45 (Kd.R_reads' HO_6.out).2.2 x7_3 p306 q306
                   cases e306
                   replace p306 := eq_true p306; replace q306 := eq_true q306; have p307 : 0 ≤ (x8_4 : Int) := of_decide_eq_true (by first | (with_reducible assumption) | assumption); have q307 : x8_4 < (t303.length : Int) := of_decide_eq_true (by first | (with_reducible assumption) | assumption); obtain ⟨ad307, e307, hx307_0, hx307_1, hx307_2, hx307_3⟩ := at_T45 (Kd.R_reads' HO_6.out).2.2 x8_4 p307 q307; obtain rfl : ad306 = ad307 := (by injection e307); replace p307 := eq_true p307; replace q307 := eq_true q307; refine start_ (n := 10) (S := fun w' => w'.cell? (ad306.add ((x7_3).toNat * 4)) = some (.int .i64 ((rd_T45 t303 x7_3).f0.f0)) ∧ w'.cell? ⟨(ad306.add ((x7_3).toNat * 4)).block, (ad306.add ((x7_3).toNat * 4)).off + 1, none⟩ = some (.int .i64 ((rd_T45 t303 x7_3).f0.f1)) ∧ w'.cell? ⟨(ad306.add ((x7_3).toNat * 4)).block, (ad306.add ((x7_3).toNat * 4)).off + 2, none⟩ = some (.int .i64 ((rd_T45 t303 x7_3).f1.f0)) ∧ w'.cell? ⟨(ad306.add ((x7_3).toNat * 4)).block, (ad306.add ((x7_3).toNat * 4)).off + 3, none⟩ = some (.int .i64 ((rd_T45 t303 x7_3).f1.f1)) ∧ w'.cell? (ad306.add ((x8_4).toNat * 4)) = some (.int .i64 ((rd_T45 t303 x8_4).f0.f0)) ∧ w'.cell? ⟨(ad306.add ((x8_4).toNat * 4)).block, (ad306.add ((x8_4).toNat * 4)).off + 1, none⟩ = some (.int .i64 ((rd_T45 t303 x8_4).f0.f1)) ∧ w'.cell? ⟨(ad306.add ((x8_4).toNat * 4)).block, (ad306.add ((x8_4).toNat * 4)).off + 2, none⟩ = some (.int .i64 ((rd_T45 t303 x8_4).f1.f0)) ∧ w'.cell? ⟨(ad306.add ((x8_4).toNat * 4)).block, (ad306.add ((x8_4).toNat * 4)).off + 3, none⟩ = some (.int .i64 ((rd_T45 t303 x8_4).f1.f1))) (ds := []) #[F, F, F, F, F, F, F, F, F, F] (by kernel_rfl) rfl rfl ⟨hx306_0, hx306_1, hx306_2, hx306_3, hx307_0, hx307_1, hx307_2, hx307_3⟩ (fun hHeld => ?_); refine with_tabW mapmakerref11_Simple.tab20 mapmakerref11_Simple.bits20 (fun HT_ HW_ => ?_); generalize wr.drew = w30 at HO_6 HB hx306_0 hx306_1 hx306_2 hx306_3 hx307_0 hx307_1 hx307_2 hx307_3 hHeld ⊢
                   refine pure_ (i := 0) (N := some 63) (v := ?_) (a' := ?_) #[T, F, F, F, F, F, F, F, F, F] rfl rfl (any_of HT_.out (by kernel_rfl)) (fun _ _ _ h => h) (Or.inl ⟨by rfl, ?_⟩) ?_ ?_; rotate_left
                   ·intro w'; go_simp; with_reducible rfl
                   rotate_left
                   ·go_simp
                    rfl
                   refine pure_ (i := 1) (N := some 64) (v := ?_) (a' := ?_) #[T, T, F, F, F, F, F, F, F, F] rfl rfl (any_of HT_.out (by kernel_rfl)) (fun _ _ _ h => h) (Or.inl ⟨by rfl, ?_⟩) ?_ ?_; rotate_left
                   ·intro w'; go_simp; with_reducible rfl
                   rotate_left
                   ·go_simp
                    rfl
                   refine pure_ (i := 2) (N := some 65) (v := ?_) (a' := ?_) #[T, T, T, F, F, F, F, F, F, F] rfl rfl (any_of HT_.out (by kernel_rfl)) (fun _ _ _ h => h) (Or.inl ⟨by rfl, ?_⟩) ?_ ?_; rotate_left
                   ·intro w'; go_simp; with_reducible rfl
                   rotate_left
                   ·go_simp
                    rfl
                   refine pure_ (i := 4) (N := some 67) (v := ?_) (a' := ?_) #[T, T, T, F, T, F, F, F, F, F] rfl rfl (any_of HT_.out (by kernel_rfl)) (fun _ _ _ h => h) (Or.inl ⟨by rfl, ?_⟩) ?_ ?_; rotate_left
                   ·intro w'; go_simp; with_reducible rfl
                   rotate_left
                   ·go_simp
                    rfl
                   refine pure_ (i := 5) (N := some 68) (v := ?_) (a' := ?_) #[T, T, T, F, T, T, F, F, F, F] rfl rfl (any_of HT_.out (by kernel_rfl)) (fun _ _ _ h => h) (Or.inl ⟨by rfl, ?_⟩) ?_ ?_; rotate_left
                   ·intro w'; go_simp; with_reducible rfl
                   rotate_left
                   ·go_simp
                    rfl
                   refine pure_ (i := 6) (N := some 69) (v := ?_) (a' := ?_) #[T, T, T, F, T, T, T, F, F, F] rfl rfl (any_of HT_.out (by kernel_rfl)) (fun _ _ _ h => h) (Or.inl ⟨by rfl, ?_⟩) ?_ ?_; rotate_left
                   ·intro w'; go_simp; with_reducible rfl
                   rotate_left
                   ·go_simp
                    rfl
                   refine take_ (i := 3) (N := some 66) (v := ?_) (a' := ?_) #[T, T, T, T, T, T, T, F, F, F] rfl rfl (take_ofW HT_.out HW_.out (by kernel_rfl)) (fun _ _ _ h => h) (Or.inl ⟨by rfl, ?_⟩) hHeld ?_ ?_; rotate_left
                   ·rintro w' ⟨s0, s1, s2, s3, s4, s5, s6, s7⟩; go_simp; with_reducible rfl
                   rotate_left
                   ·go_simp
                    rfl
                   refine take_ (i := 7) (N := some 70) (v := ?_) (a' := ?_) #[T, T, T, T, T, T, T, T, F, F] rfl rfl (take_ofW HT_.out HW_.out (by kernel_rfl)) (fun _ _ _ h => h) (Or.inl ⟨by rfl, ?_⟩) hHeld ?_ ?_; rotate_left
                   ·rintro w' ⟨s0, s1, s2, s3, s4, s5, s6, s7⟩; go_simp; with_reducible rfl
                   rotate_left
                   ·go_simp
                    rfl
                   refine one_ (i := 8) (N := some 71) #[T, T, T, T, T, T, T, T, T, F] rfl rfl (one_of HT_.out (by kernel_rfl)) (by decide) (fun K hK => ?_); refine goes_ Try.func33 (by kernel_rfl) rfl #[.agg #[.int .i64 ((rd_T45 t303 x7_3).f0.f0), .int .i64 ((rd_T45 t303 x7_3).f0.f1), .int .i64 ((rd_T45 t303 x7_3).f1.f0), .int .i64 ((rd_T45 t303 x7_3).f1.f1)], .agg #[.int .i64 ((rd_T45 t303 x8_4).f0.f0), .int .i64 ((rd_T45 t303 x8_4).f0.f1), .int .i64 ((rd_T45 t303 x8_4).f1.f0), .int .i64 ((rd_T45 t303 x8_4).f1.f1)]] (by rfl) rfl rfl (by (try simp only [List.map_toArray, List.map_cons, List.map_nil]); first | done | rfl | (simp only [List.length_drop, List.length_take]; rfl)) ?_; with_reducible refine (mapmakerref09_Relate.calls k4 ((rd_T45 t303 x7_3).f0.f0) ((rd_T45 t303 x7_3).f0.f1) ((rd_T45 t303 x7_3).f1.f0) ((rd_T45 t303 x7_3).f1.f1) ((rd_T45 t303 x8_4).f0.f0) ((rd_T45 t303 x8_4).f0.f1) ((rd_T45 t303 x8_4).f1.f0) ((rd_T45 t303 x8_4).f1.f1) t308 _ A25.out).mono ?_
                   rintro e w32 ⟨rfl, hb⟩; have HS0_ := (hb.cell (World.block_lt_of_cell? _ _ (hHeld.1))).trans (hHeld.1); have HS1_ := (hb.cell (World.block_lt_of_cell? _ _ (hHeld.2.1))).trans (hHeld.2.1); have HS2_ := (hb.cell (World.block_lt_of_cell? _ _ (hHeld.2.2.1))).trans (hHeld.2.2.1); have HS3_ := (hb.cell (World.block_lt_of_cell? _ _ (hHeld.2.2.2.1))).trans (hHeld.2.2.2.1); have HS4_ := (hb.cell (World.block_lt_of_cell? _ _ (hHeld.2.2.2.2.1))).trans (hHeld.2.2.2.2.1); have HS5_ := (hb.cell (World.block_lt_of_cell? _ _ (hHeld.2.2.2.2.2.1))).trans (hHeld.2.2.2.2.2.1); have HS6_ := (hb.cell (World.block_lt_of_cell? _ _ (hHeld.2.2.2.2.2.2.1))).trans (hHeld.2.2.2.2.2.2.1); have HS7_ := (hb.cell (World.block_lt_of_cell? _ _ (hHeld.2.2.2.2.2.2.2))).trans (hHeld.2.2.2.2.2.2.2); refine ⟨_, rfl, ?_⟩; have n0_ := Aside0.mk (Kd.R_below (by (with_reducible repeat (first | apply Kd.R_alloc | apply Kd.R_drewN | apply Kd.R_drew)); exact HO_6.out) hb); have n1_ := Aside0.mk (below_step (bB HB.out) hb); clear HO_6 HB; have HO_6 := n0_; have HB := n1_; clear n0_ n1_; (try clear hb); (try clear hb2); (try clear hk); (try clear hi); refine hK.out _ _ ⟨HS0_, HS1_, HS2_, HS3_, HS4_, HS5_, HS6_, HS7_⟩ (fun hHeld => ?_); clear hK K; refine norm_ (a' := ?_) ?_ ?_; rotate_left
                   ·show Act.put _ (some 71) _ = _; go_simp; rfl
                   refine pure_ (i := 9) (N := some 10) (v := ?_) (a' := ?_) #[T, T, T, T, T, T, T, T, T, T] rfl rfl (any_of HT_.out (by kernel_rfl)) (fun _ _ _ h => h) (Or.inl ⟨by rfl, ?_⟩) ?_ ?_; rotate_left
                   ·intro w'; go_simp; with_reducible rfl
                   rotate_left
                   ·go_simp
                    rfl
                   refine done_ (done_of HT_.out (by kernel_rfl)) ?_
                   try go_wp2
                   go_ret
                   exact ⟨by first | rfl | (simp [errW_none, errW_some] <;> rfl) | (simp [*, errW_none, errW_some] <;> rfl), bB HB.out⟩
                 ·rw [if_neg c24] at H
                  exact absurd H (by simp)
                ·rw [if_neg c23] at H
                 exact absurd H (by simp)
               ·rw [if_neg c22] at H
                exact absurd H (by simp)
              ·rw [if_neg c21] at H
               exact absurd H (by simp)
             ·rw [if_neg c20] at H
              have c20b0 : ((wrap64 (x7_3 - x8_4)) == 1) = false := beq_eq_false_iff_ne.mpr c20; have c20b1 : ((wrap64 (x7_3 - x8_4)) != 1) = true := bne_iff_ne.mpr c20
              by_cases c33 : 0 ≤ x7_3
              ·rw [if_pos c33] at H
               have c33b0 : decide (0 ≤ x7_3) = true := decide_eq_true c33; clear c33
               by_cases c34 : x7_3 < (t303.length : Int)
               ·rw [if_pos c34] at H
                have c34b0 : decide (x7_3 < (t303.length : Int)) = true := decide_eq_true c34; clear c34
                by_cases c35 : 0 ≤ x8_4
                ·rw [if_pos c35] at H
                 have c35b0 : decide (0 ≤ x8_4) = true := decide_eq_true c35; clear c35
                 by_cases c36 : x8_4 < (t303.length : Int)
                 ·rw [if_pos c36] at H
                  have c36b0 : decide (x8_4 < (t303.length : Int)) = true := decide_eq_true c36; clear c36; replace H := Option.bind_eq_some_iff.mp H; obtain ⟨t311, A370, H⟩ := H; replace H : (if (wrap64 (x7_3 - x8_4)) = (wrap64 ((l0.length : Int) - 1)) then (if t311 = 1 then (if ((wrap64 (x7_3 - x8_4)) = (wrap64 ((l0.length : Int) - 1))) then (mapmakerref11_Simple.l3 k4 (l0.length : Int) t303 x7_3 (wrap64 (x8_4 + 1))) else (if t311 = 0 then (mapmakerref11_Simple.l3 k4 (l0.length : Int) t303 x7_3 (wrap64 (x8_4 + 1))) else (some false))) else (some false)) else (if ((wrap64 (x7_3 - x8_4)) = (wrap64 ((l0.length : Int) - 1))) then (mapmakerref11_Simple.l3 k4 (l0.length : Int) t303 x7_3 (wrap64 (x8_4 + 1))) else (if t311 = 0 then (mapmakerref11_Simple.l3 k4 (l0.length : Int) t303 x7_3 (wrap64 (x8_4 + 1))) else (some false)))) = some r := H; have A37 := Aside0.mk A370; clear A370
                  by_cases c38 : (wrap64 (x7_3 - x8_4)) = (wrap64 ((l0.length : Int) - 1))
                  ·rw [if_pos c38] at H
                   have c38b0 : ((wrap64 (x7_3 - x8_4)) == (wrap64 ((l0.length : Int) - 1))) = true := beq_iff_eq.mpr c38; have c38b1 : ((wrap64 (x7_3 - x8_4)) != (wrap64 ((l0.length : Int) - 1))) = false := bne_eq_false_iff_eq.mpr c38; clear c38
                   by_cases c39 : t311 = 1
                   ·rw [if_pos c39] at H
                    have c39b0 : (t311 == 1) = true := beq_iff_eq.mpr c39; have c39b1 : (t311 != 1) = false := bne_eq_false_iff_eq.mpr c39; clear c39
                    by_cases c40 : ((wrap64 (x7_3 - x8_4)) = (wrap64 ((l0.length : Int) - 1)))
                    ·rw [if_pos c40] at H
                     have c40b0 : ((wrap64 (x7_3 - x8_4)) == (wrap64 ((l0.length : Int) - 1))) = true := beq_iff_eq.mpr c40; have c40b1 : ((wrap64 (x7_3 - x8_4)) != (wrap64 ((l0.length : Int) - 1))) = false := bne_eq_false_iff_eq.mpr c40; clear c40; have H' := Aside0.mk H; clear H
                     try go_wp2
                     have n0_ := Aside0.mk (Kd.R_drew HO_6.out); have n1_ := Aside0.mk (below_drew1 HB.out); clear HO_6 HB; have HO_6 := n0_; have HB := n1_; clear n0_ n1_; obtain ⟨Ao42, co42, eo42⟩ := Kd.R_slice HO_6.out; (first | subst eo42 | (injection eo42 with f1_ f2_ f3_; have f4_ := f1_.symm; have f5_ := f3_.symm; clear f1_ f2_ f3_; subst f4_; subst f5_)); have p309 : 0 ≤ (x7_3 : Int) := of_decide_eq_true (by first | (with_reducible assumption) | assumption); have q309 : x7_3 < (t303.length : Int) := of_decide_eq_true (by first | (with_reducible assumption) | assumption); obtain ⟨ad309, e309, hx309_0, hx309_1, hx309_2, hx309_3⟩ := at_T45 (Kd.R_reads' HO_6.out).2.2 x7_3 p309 q309
                     cases e309
                     replace p309 := eq_true p309; replace q309 := eq_true q309; have p310 : 0 ≤ (x8_4 : Int) := of_decide_eq_true (by first | (with_reducible assumption) | assumption); have q310 : x8_4 < (t303.length : Int) := of_decide_eq_true (by first | (with_reducible assumption) | assumption); obtain ⟨ad310, e310, hx310_0, hx310_1, hx310_2, hx310_3⟩ := at_T45 (Kd.R_reads' HO_6.out).2.2 x8_4 p310 q310; obtain rfl : ad309 = ad310 := (by injection e310); replace p310 := eq_true p310; replace q310 := eq_true q310; refine start_ (n := 10) (S := fun w' => w'.cell? (ad309.add ((x7_3).toNat * 4)) = some (.int .i64 ((rd_T45 t303 x7_3).f0.f0)) ∧ w'.cell? ⟨(ad309.add ((x7_3).toNat * 4)).block, (ad309.add ((x7_3).toNat * 4)).off + 1, none⟩ = some (.int .i64 ((rd_T45 t303 x7_3).f0.f1)) ∧ w'.cell? ⟨(ad309.add ((x7_3).toNat * 4)).block, (ad309.add ((x7_3).toNat * 4)).off + 2, none⟩ = some (.int .i64 ((rd_T45 t303 x7_3).f1.f0)) ∧ w'.cell? ⟨(ad309.add ((x7_3).toNat * 4)).block, (ad309.add ((x7_3).toNat * 4)).off + 3, none⟩ = some (.int .i64 ((rd_T45 t303 x7_3).f1.f1)) ∧ w'.cell? (ad309.add ((x8_4).toNat * 4)) = some (.int .i64 ((rd_T45 t303 x8_4).f0.f0)) ∧ w'.cell? ⟨(ad309.add ((x8_4).toNat * 4)).block, (ad309.add ((x8_4).toNat * 4)).off + 1, none⟩ = some (.int .i64 ((rd_T45 t303 x8_4).f0.f1)) ∧ w'.cell? ⟨(ad309.add ((x8_4).toNat * 4)).block, (ad309.add ((x8_4).toNat * 4)).off + 2, none⟩ = some (.int .i64 ((rd_T45 t303 x8_4).f1.f0)) ∧ w'.cell? ⟨(ad309.add ((x8_4).toNat * 4)).block, (ad309.add ((x8_4).toNat * 4)).off + 3, none⟩ = some (.int .i64 ((rd_T45 t303 x8_4).f1.f1))) (ds := []) #[F, F, F, F, F, F, F, F, F, F] (by kernel_rfl) rfl rfl ⟨hx309_0, hx309_1, hx309_2, hx309_3, hx310_0, hx310_1, hx310_2, hx310_3⟩ (fun hHeld => ?_); refine with_tabW mapmakerref11_Simple.tab20 mapmakerref11_Simple.bits20 (fun HT_ HW_ => ?_); generalize wr.drew = w41 at HO_6 HB hx309_0 hx309_1 hx309_2 hx309_3 hx310_0 hx310_1 hx310_2 hx310_3 hHeld ⊢
                     refine pure_ (i := 0) (N := some 63) (v := ?_) (a' := ?_) #[T, F, F, F, F, F, F, F, F, F] rfl rfl (any_of HT_.out (by kernel_rfl)) (fun _ _ _ h => h) (Or.inl ⟨by rfl, ?_⟩) ?_ ?_; rotate_left
                     ·intro w'; go_simp; with_reducible rfl
                     rotate_left
                     ·go_simp
                      rfl
                     refine pure_ (i := 1) (N := some 64) (v := ?_) (a' := ?_) #[T, T, F, F, F, F, F, F, F, F] rfl rfl (any_of HT_.out (by kernel_rfl)) (fun _ _ _ h => h) (Or.inl ⟨by rfl, ?_⟩) ?_ ?_; rotate_left
                     ·intro w'; go_simp; with_reducible rfl
                     rotate_left
                     ·go_simp
                      rfl
                     refine pure_ (i := 2) (N := some 65) (v := ?_) (a' := ?_) #[T, T, T, F, F, F, F, F, F, F] rfl rfl (any_of HT_.out (by kernel_rfl)) (fun _ _ _ h => h) (Or.inl ⟨by rfl, ?_⟩) ?_ ?_; rotate_left
                     ·intro w'; go_simp; with_reducible rfl
                     rotate_left
                     ·go_simp
                      rfl
                     refine pure_ (i := 4) (N := some 67) (v := ?_) (a' := ?_) #[T, T, T, F, T, F, F, F, F, F] rfl rfl (any_of HT_.out (by kernel_rfl)) (fun _ _ _ h => h) (Or.inl ⟨by rfl, ?_⟩) ?_ ?_; rotate_left
                     ·intro w'; go_simp; with_reducible rfl
                     rotate_left
                     ·go_simp
                      rfl
                     refine pure_ (i := 5) (N := some 68) (v := ?_) (a' := ?_) #[T, T, T, F, T, T, F, F, F, F] rfl rfl (any_of HT_.out (by kernel_rfl)) (fun _ _ _ h => h) (Or.inl ⟨by rfl, ?_⟩) ?_ ?_; rotate_left
                     ·intro w'; go_simp; with_reducible rfl
                     rotate_left
                     ·go_simp
                      rfl
                     refine pure_ (i := 6) (N := some 69) (v := ?_) (a' := ?_) #[T, T, T, F, T, T, T, F, F, F] rfl rfl (any_of HT_.out (by kernel_rfl)) (fun _ _ _ h => h) (Or.inl ⟨by rfl, ?_⟩) ?_ ?_; rotate_left
                     ·intro w'; go_simp; with_reducible rfl
                     rotate_left
                     ·go_simp
                      rfl
                     refine take_ (i := 3) (N := some 66) (v := ?_) (a' := ?_) #[T, T, T, T, T, T, T, F, F, F] rfl rfl (take_ofW HT_.out HW_.out (by kernel_rfl)) (fun _ _ _ h => h) (Or.inl ⟨by rfl, ?_⟩) hHeld ?_ ?_; rotate_left
                     ·rintro w' ⟨s0, s1, s2, s3, s4, s5, s6, s7⟩; go_simp; with_reducible rfl
                     rotate_left
                     ·go_simp
                      rfl
                     refine take_ (i := 7) (N := some 70) (v := ?_) (a' := ?_) #[T, T, T, T, T, T, T, T, F, F] rfl rfl (take_ofW HT_.out HW_.out (by kernel_rfl)) (fun _ _ _ h => h) (Or.inl ⟨by rfl, ?_⟩) hHeld ?_ ?_; rotate_left
                     ·rintro w' ⟨s0, s1, s2, s3, s4, s5, s6, s7⟩; go_simp; with_reducible rfl
                     rotate_left
                     ·go_simp
                      rfl
                     refine one_ (i := 8) (N := some 71) #[T, T, T, T, T, T, T, T, T, F] rfl rfl (one_of HT_.out (by kernel_rfl)) (by decide) (fun K hK => ?_); refine goes_ Try.func33 (by kernel_rfl) rfl #[.agg #[.int .i64 ((rd_T45 t303 x7_3).f0.f0), .int .i64 ((rd_T45 t303 x7_3).f0.f1), .int .i64 ((rd_T45 t303 x7_3).f1.f0), .int .i64 ((rd_T45 t303 x7_3).f1.f1)], .agg #[.int .i64 ((rd_T45 t303 x8_4).f0.f0), .int .i64 ((rd_T45 t303 x8_4).f0.f1), .int .i64 ((rd_T45 t303 x8_4).f1.f0), .int .i64 ((rd_T45 t303 x8_4).f1.f1)]] (by rfl) rfl rfl (by (try simp only [List.map_toArray, List.map_cons, List.map_nil]); first | done | rfl | (simp only [List.length_drop, List.length_take]; rfl)) ?_; with_reducible refine (mapmakerref09_Relate.calls k4 ((rd_T45 t303 x7_3).f0.f0) ((rd_T45 t303 x7_3).f0.f1) ((rd_T45 t303 x7_3).f1.f0) ((rd_T45 t303 x7_3).f1.f1) ((rd_T45 t303 x8_4).f0.f0) ((rd_T45 t303 x8_4).f0.f1) ((rd_T45 t303 x8_4).f1.f0) ((rd_T45 t303 x8_4).f1.f1) t311 _ A37.out).mono ?_
                     rintro e w43 ⟨rfl, hb⟩; have HS0_ := (hb.cell (World.block_lt_of_cell? _ _ (hHeld.1))).trans (hHeld.1); have HS1_ := (hb.cell (World.block_lt_of_cell? _ _ (hHeld.2.1))).trans (hHeld.2.1); have HS2_ := (hb.cell (World.block_lt_of_cell? _ _ (hHeld.2.2.1))).trans (hHeld.2.2.1); have HS3_ := (hb.cell (World.block_lt_of_cell? _ _ (hHeld.2.2.2.1))).trans (hHeld.2.2.2.1); have HS4_ := (hb.cell (World.block_lt_of_cell? _ _ (hHeld.2.2.2.2.1))).trans (hHeld.2.2.2.2.1); have HS5_ := (hb.cell (World.block_lt_of_cell? _ _ (hHeld.2.2.2.2.2.1))).trans (hHeld.2.2.2.2.2.1); have HS6_ := (hb.cell (World.block_lt_of_cell? _ _ (hHeld.2.2.2.2.2.2.1))).trans (hHeld.2.2.2.2.2.2.1); have HS7_ := (hb.cell (World.block_lt_of_cell? _ _ (hHeld.2.2.2.2.2.2.2))).trans (hHeld.2.2.2.2.2.2.2); refine ⟨_, rfl, ?_⟩; have n0_ := Aside0.mk (Kd.R_below (by (with_reducible repeat (first | apply Kd.R_alloc | apply Kd.R_drewN | apply Kd.R_drew)); exact HO_6.out) hb); have n1_ := Aside0.mk (below_step (bB HB.out) hb); clear HO_6 HB; have HO_6 := n0_; have HB := n1_; clear n0_ n1_; (try clear hb); (try clear hb2); (try clear hk); (try clear hi); refine hK.out _ _ ⟨HS0_, HS1_, HS2_, HS3_, HS4_, HS5_, HS6_, HS7_⟩ (fun hHeld => ?_); clear hK K; refine norm_ (a' := ?_) ?_ ?_; rotate_left
                     ·show Act.put _ (some 71) _ = _; go_simp; rfl
                     refine pure_ (i := 9) (N := some 10) (v := ?_) (a' := ?_) #[T, T, T, T, T, T, T, T, T, T] rfl rfl (any_of HT_.out (by kernel_rfl)) (fun _ _ _ h => h) (Or.inl ⟨by rfl, ?_⟩) ?_ ?_; rotate_left
                     ·intro w'; go_simp; with_reducible rfl
                     rotate_left
                     ·go_simp
                      rfl
                     refine done_ (done_of HT_.out (by kernel_rfl)) ?_
                     try go_wp2
                     go_roundg k4
                     case measure => have := HJ1.out; have := HK2.out; have := HK3.out; have := HK4.out; omega
                     case rel => exact ⟨(wrap64 (x8_4 + 1)), (by first | rfl | (simp; done) | (simp [*]; done)), H', ⟨by have := HJ1.out; have := HK2.out; have := HK3.out; have := HK4.out; omega⟩, ⟨by (with_reducible repeat (first | apply Kd.R_alloc | apply Kd.R_drewN | apply Kd.R_drew)); exact HO_6.out⟩, ⟨bB HB.out⟩⟩
                    ·exact absurd (beq_iff_eq.mp c38b0) c40
                   ·rw [if_neg c39] at H
                    have c39b0 : (t311 == 1) = false := beq_eq_false_iff_ne.mpr c39; have c39b1 : (t311 != 1) = true := bne_iff_ne.mpr c39; obtain rfl := Option.some.inj H
                    try go_wp2
                    have n0_ := Aside0.mk (Kd.R_drew HO_6.out); have n1_ := Aside0.mk (below_drew1 HB.out); clear HO_6 HB; have HO_6 := n0_; have HB := n1_; clear n0_ n1_; obtain ⟨Ao52, co52, eo52⟩ := Kd.R_slice HO_6.out; (first | subst eo52 | (injection eo52 with f1_ f2_ f3_; have f4_ := f1_.symm; have f5_ := f3_.symm; clear f1_ f2_ f3_; subst f4_; subst f5_)); have p309 : 0 ≤ (x7_3 : Int) := of_decide_eq_true (by first | (with_reducible assumption) | assumption); have q309 : x7_3 < (t303.length : Int) := of_decide_eq_true (by first | (with_reducible assumption) | assumption); obtain ⟨ad309, e309, hx309_0, hx309_1, hx309_2, hx309_3⟩ := at_T45 (Kd.R_reads' HO_6.out).2.2 x7_3 p309 q309
                    cases e309
                    replace p309 := eq_true p309; replace q309 := eq_true q309; have p310 : 0 ≤ (x8_4 : Int) := of_decide_eq_true (by first | (with_reducible assumption) | assumption); have q310 : x8_4 < (t303.length : Int) := of_decide_eq_true (by first | (with_reducible assumption) | assumption); obtain ⟨ad310, e310, hx310_0, hx310_1, hx310_2, hx310_3⟩ := at_T45 (Kd.R_reads' HO_6.out).2.2 x8_4 p310 q310; obtain rfl : ad309 = ad310 := (by injection e310); replace p310 := eq_true p310; replace q310 := eq_true q310; refine start_ (n := 10) (S := fun w' => w'.cell? (ad309.add ((x7_3).toNat * 4)) = some (.int .i64 ((rd_T45 t303 x7_3).f0.f0)) ∧ w'.cell? ⟨(ad309.add ((x7_3).toNat * 4)).block, (ad309.add ((x7_3).toNat * 4)).off + 1, none⟩ = some (.int .i64 ((rd_T45 t303 x7_3).f0.f1)) ∧ w'.cell? ⟨(ad309.add ((x7_3).toNat * 4)).block, (ad309.add ((x7_3).toNat * 4)).off + 2, none⟩ = some (.int .i64 ((rd_T45 t303 x7_3).f1.f0)) ∧ w'.cell? ⟨(ad309.add ((x7_3).toNat * 4)).block, (ad309.add ((x7_3).toNat * 4)).off + 3, none⟩ = some (.int .i64 ((rd_T45 t303 x7_3).f1.f1)) ∧ w'.cell? (ad309.add ((x8_4).toNat * 4)) = some (.int .i64 ((rd_T45 t303 x8_4).f0.f0)) ∧ w'.cell? ⟨(ad309.add ((x8_4).toNat * 4)).block, (ad309.add ((x8_4).toNat * 4)).off + 1, none⟩ = some (.int .i64 ((rd_T45 t303 x8_4).f0.f1)) ∧ w'.cell? ⟨(ad309.add ((x8_4).toNat * 4)).block, (ad309.add ((x8_4).toNat * 4)).off + 2, none⟩ = some (.int .i64 ((rd_T45 t303 x8_4).f1.f0)) ∧ w'.cell? ⟨(ad309.add ((x8_4).toNat * 4)).block, (ad309.add ((x8_4).toNat * 4)).off + 3, none⟩ = some (.int .i64 ((rd_T45 t303 x8_4).f1.f1))) (ds := []) #[F, F, F, F, F, F, F, F, F, F] (by kernel_rfl) rfl rfl ⟨hx309_0, hx309_1, hx309_2, hx309_3, hx310_0, hx310_1, hx310_2, hx310_3⟩ (fun hHeld => ?_); refine with_tabW mapmakerref11_Simple.tab20 mapmakerref11_Simple.bits20 (fun HT_ HW_ => ?_); generalize wr.drew = w51 at HO_6 HB hx309_0 hx309_1 hx309_2 hx309_3 hx310_0 hx310_1 hx310_2 hx310_3 hHeld ⊢
                    refine pure_ (i := 0) (N := some 63) (v := ?_) (a' := ?_) #[T, F, F, F, F, F, F, F, F, F] rfl rfl (any_of HT_.out (by kernel_rfl)) (fun _ _ _ h => h) (Or.inl ⟨by rfl, ?_⟩) ?_ ?_; rotate_left
                    ·intro w'; go_simp; with_reducible rfl
                    rotate_left
                    ·go_simp
                     rfl
                    refine pure_ (i := 1) (N := some 64) (v := ?_) (a' := ?_) #[T, T, F, F, F, F, F, F, F, F] rfl rfl (any_of HT_.out (by kernel_rfl)) (fun _ _ _ h => h) (Or.inl ⟨by rfl, ?_⟩) ?_ ?_; rotate_left
                    ·intro w'; go_simp; with_reducible rfl
                    rotate_left
                    ·go_simp
                     rfl
                    refine pure_ (i := 2) (N := some 65) (v := ?_) (a' := ?_) #[T, T, T, F, F, F, F, F, F, F] rfl rfl (any_of HT_.out (by kernel_rfl)) (fun _ _ _ h => h) (Or.inl ⟨by rfl, ?_⟩) ?_ ?_; rotate_left
                    ·intro w'; go_simp; with_reducible rfl
                    rotate_left
                    ·go_simp
                     rfl
                    refine pure_ (i := 4) (N := some 67) (v := ?_) (a' := ?_) #[T, T, T, F, T, F, F, F, F, F] rfl rfl (any_of HT_.out (by kernel_rfl)) (fun _ _ _ h => h) (Or.inl ⟨by rfl, ?_⟩) ?_ ?_; rotate_left
                    ·intro w'; go_simp; with_reducible rfl
                    rotate_left
                    ·go_simp
                     rfl
                    refine pure_ (i := 5) (N := some 68) (v := ?_) (a' := ?_) #[T, T, T, F, T, T, F, F, F, F] rfl rfl (any_of HT_.out (by kernel_rfl)) (fun _ _ _ h => h) (Or.inl ⟨by rfl, ?_⟩) ?_ ?_; rotate_left
                    ·intro w'; go_simp; with_reducible rfl
                    rotate_left
                    ·go_simp
                     rfl
                    refine pure_ (i := 6) (N := some 69) (v := ?_) (a' := ?_) #[T, T, T, F, T, T, T, F, F, F] rfl rfl (any_of HT_.out (by kernel_rfl)) (fun _ _ _ h => h) (Or.inl ⟨by rfl, ?_⟩) ?_ ?_; rotate_left
                    ·intro w'; go_simp; with_reducible rfl
                    rotate_left
                    ·go_simp
                     rfl
                    refine take_ (i := 3) (N := some 66) (v := ?_) (a' := ?_) #[T, T, T, T, T, T, T, F, F, F] rfl rfl (take_ofW HT_.out HW_.out (by kernel_rfl)) (fun _ _ _ h => h) (Or.inl ⟨by rfl, ?_⟩) hHeld ?_ ?_; rotate_left
                    ·rintro w' ⟨s0, s1, s2, s3, s4, s5, s6, s7⟩; go_simp; with_reducible rfl
                    rotate_left
                    ·go_simp
                     rfl
                    refine take_ (i := 7) (N := some 70) (v := ?_) (a' := ?_) #[T, T, T, T, T, T, T, T, F, F] rfl rfl (take_ofW HT_.out HW_.out (by kernel_rfl)) (fun _ _ _ h => h) (Or.inl ⟨by rfl, ?_⟩) hHeld ?_ ?_; rotate_left
                    ·rintro w' ⟨s0, s1, s2, s3, s4, s5, s6, s7⟩; go_simp; with_reducible rfl
                    rotate_left
                    ·go_simp
                     rfl
                    refine one_ (i := 8) (N := some 71) #[T, T, T, T, T, T, T, T, T, F] rfl rfl (one_of HT_.out (by kernel_rfl)) (by decide) (fun K hK => ?_); refine goes_ Try.func33 (by kernel_rfl) rfl #[.agg #[.int .i64 ((rd_T45 t303 x7_3).f0.f0), .int .i64 ((rd_T45 t303 x7_3).f0.f1), .int .i64 ((rd_T45 t303 x7_3).f1.f0), .int .i64 ((rd_T45 t303 x7_3).f1.f1)], .agg #[.int .i64 ((rd_T45 t303 x8_4).f0.f0), .int .i64 ((rd_T45 t303 x8_4).f0.f1), .int .i64 ((rd_T45 t303 x8_4).f1.f0), .int .i64 ((rd_T45 t303 x8_4).f1.f1)]] (by rfl) rfl rfl (by (try simp only [List.map_toArray, List.map_cons, List.map_nil]); first | done | rfl | (simp only [List.length_drop, List.length_take]; rfl)) ?_; with_reducible refine (mapmakerref09_Relate.calls k4 ((rd_T45 t303 x7_3).f0.f0) ((rd_T45 t303 x7_3).f0.f1) ((rd_T45 t303 x7_3).f1.f0) ((rd_T45 t303 x7_3).f1.f1) ((rd_T45 t303 x8_4).f0.f0) ((rd_T45 t303 x8_4).f0.f1) ((rd_T45 t303 x8_4).f1.f0) ((rd_T45 t303 x8_4).f1.f1) t311 _ A37.out).mono ?_
                    rintro e w53 ⟨rfl, hb⟩; have HS0_ := (hb.cell (World.block_lt_of_cell? _ _ (hHeld.1))).trans (hHeld.1); have HS1_ := (hb.cell (World.block_lt_of_cell? _ _ (hHeld.2.1))).trans (hHeld.2.1); have HS2_ := (hb.cell (World.block_lt_of_cell? _ _ (hHeld.2.2.1))).trans (hHeld.2.2.1); have HS3_ := (hb.cell (World.block_lt_of_cell? _ _ (hHeld.2.2.2.1))).trans (hHeld.2.2.2.1); have HS4_ := (hb.cell (World.block_lt_of_cell? _ _ (hHeld.2.2.2.2.1))).trans (hHeld.2.2.2.2.1); have HS5_ := (hb.cell (World.block_lt_of_cell? _ _ (hHeld.2.2.2.2.2.1))).trans (hHeld.2.2.2.2.2.1); have HS6_ := (hb.cell (World.block_lt_of_cell? _ _ (hHeld.2.2.2.2.2.2.1))).trans (hHeld.2.2.2.2.2.2.1); have HS7_ := (hb.cell (World.block_lt_of_cell? _ _ (hHeld.2.2.2.2.2.2.2))).trans (hHeld.2.2.2.2.2.2.2); refine ⟨_, rfl, ?_⟩; have n0_ := Aside0.mk (Kd.R_below (by (with_reducible repeat (first | apply Kd.R_alloc | apply Kd.R_drewN | apply Kd.R_drew)); exact HO_6.out) hb); have n1_ := Aside0.mk (below_step (bB HB.out) hb); clear HO_6 HB; have HO_6 := n0_; have HB := n1_; clear n0_ n1_; (try clear hb); (try clear hb2); (try clear hk); (try clear hi); refine hK.out _ _ ⟨HS0_, HS1_, HS2_, HS3_, HS4_, HS5_, HS6_, HS7_⟩ (fun hHeld => ?_); clear hK K; refine norm_ (a' := ?_) ?_ ?_; rotate_left
                    ·show Act.put _ (some 71) _ = _; go_simp; rfl
                    refine pure_ (i := 9) (N := some 10) (v := ?_) (a' := ?_) #[T, T, T, T, T, T, T, T, T, T] rfl rfl (any_of HT_.out (by kernel_rfl)) (fun _ _ _ h => h) (Or.inl ⟨by rfl, ?_⟩) ?_ ?_; rotate_left
                    ·intro w'; go_simp; with_reducible rfl
                    rotate_left
                    ·go_simp
                     rfl
                    refine done_ (done_of HT_.out (by kernel_rfl)) ?_
                    try go_wp2
                    go_ret
                    exact ⟨by first | rfl | (simp [errW_none, errW_some] <;> rfl) | (simp [*, errW_none, errW_some] <;> rfl), bB HB.out⟩
                  ·rw [if_neg c38] at H
                   have c38b0 : ((wrap64 (x7_3 - x8_4)) == (wrap64 ((l0.length : Int) - 1))) = false := beq_eq_false_iff_ne.mpr c38; have c38b1 : ((wrap64 (x7_3 - x8_4)) != (wrap64 ((l0.length : Int) - 1))) = true := bne_iff_ne.mpr c38
                   by_cases c54 : ((wrap64 (x7_3 - x8_4)) = (wrap64 ((l0.length : Int) - 1)))
                   ·exact absurd c54 (beq_eq_false_iff_ne.mp c38b0)
                   ·rw [if_neg c54] at H
                    have c54b0 : ((wrap64 (x7_3 - x8_4)) == (wrap64 ((l0.length : Int) - 1))) = false := beq_eq_false_iff_ne.mpr c54; have c54b1 : ((wrap64 (x7_3 - x8_4)) != (wrap64 ((l0.length : Int) - 1))) = true := bne_iff_ne.mpr c54
                    by_cases c58 : t311 = 0
                    ·rw [if_pos c58] at H
                     have c58b0 : (t311 == 0) = true := beq_iff_eq.mpr c58; have c58b1 : (t311 != 0) = false := bne_eq_false_iff_eq.mpr c58; clear c58; have H' := Aside0.mk H; clear H
                     try go_wp2
                     have n0_ := Aside0.mk (Kd.R_drew HO_6.out); have n1_ := Aside0.mk (below_drew1 HB.out); clear HO_6 HB; have HO_6 := n0_; have HB := n1_; clear n0_ n1_; obtain ⟨Ao60, co60, eo60⟩ := Kd.R_slice HO_6.out; (first | subst eo60 | (injection eo60 with f1_ f2_ f3_; have f4_ := f1_.symm; have f5_ := f3_.symm; clear f1_ f2_ f3_; subst f4_; subst f5_)); have p309 : 0 ≤ (x7_3 : Int) := of_decide_eq_true (by first | (with_reducible assumption) | assumption); have q309 : x7_3 < (t303.length : Int) := of_decide_eq_true (by first | (with_reducible assumption) | assumption); obtain ⟨ad309, e309, hx309_0, hx309_1, hx309_2, hx309_3⟩ := at_T45 (Kd.R_reads' HO_6.out).2.2 x7_3 p309 q309
                     cases e309
                     replace p309 := eq_true p309; replace q309 := eq_true q309; have p310 : 0 ≤ (x8_4 : Int) := of_decide_eq_true (by first | (with_reducible assumption) | assumption); have q310 : x8_4 < (t303.length : Int) := of_decide_eq_true (by first | (with_reducible assumption) | assumption); obtain ⟨ad310, e310, hx310_0, hx310_1, hx310_2, hx310_3⟩ := at_T45 (Kd.R_reads' HO_6.out).2.2 x8_4 p310 q310; obtain rfl : ad309 = ad310 := (by injection e310); replace p310 := eq_true p310; replace q310 := eq_true q310; refine start_ (n := 10) (S := fun w' => w'.cell? (ad309.add ((x7_3).toNat * 4)) = some (.int .i64 ((rd_T45 t303 x7_3).f0.f0)) ∧ w'.cell? ⟨(ad309.add ((x7_3).toNat * 4)).block, (ad309.add ((x7_3).toNat * 4)).off + 1, none⟩ = some (.int .i64 ((rd_T45 t303 x7_3).f0.f1)) ∧ w'.cell? ⟨(ad309.add ((x7_3).toNat * 4)).block, (ad309.add ((x7_3).toNat * 4)).off + 2, none⟩ = some (.int .i64 ((rd_T45 t303 x7_3).f1.f0)) ∧ w'.cell? ⟨(ad309.add ((x7_3).toNat * 4)).block, (ad309.add ((x7_3).toNat * 4)).off + 3, none⟩ = some (.int .i64 ((rd_T45 t303 x7_3).f1.f1)) ∧ w'.cell? (ad309.add ((x8_4).toNat * 4)) = some (.int .i64 ((rd_T45 t303 x8_4).f0.f0)) ∧ w'.cell? ⟨(ad309.add ((x8_4).toNat * 4)).block, (ad309.add ((x8_4).toNat * 4)).off + 1, none⟩ = some (.int .i64 ((rd_T45 t303 x8_4).f0.f1)) ∧ w'.cell? ⟨(ad309.add ((x8_4).toNat * 4)).block, (ad309.add ((x8_4).toNat * 4)).off + 2, none⟩ = some (.int .i64 ((rd_T45 t303 x8_4).f1.f0)) ∧ w'.cell? ⟨(ad309.add ((x8_4).toNat * 4)).block, (ad309.add ((x8_4).toNat * 4)).off + 3, none⟩ = some (.int .i64 ((rd_T45 t303 x8_4).f1.f1))) (ds := []) #[F, F, F, F, F, F, F, F, F, F] (by kernel_rfl) rfl rfl ⟨hx309_0, hx309_1, hx309_2, hx309_3, hx310_0, hx310_1, hx310_2, hx310_3⟩ (fun hHeld => ?_); refine with_tabW mapmakerref11_Simple.tab20 mapmakerref11_Simple.bits20 (fun HT_ HW_ => ?_); generalize wr.drew = w59 at HO_6 HB hx309_0 hx309_1 hx309_2 hx309_3 hx310_0 hx310_1 hx310_2 hx310_3 hHeld ⊢
                     refine pure_ (i := 0) (N := some 63) (v := ?_) (a' := ?_) #[T, F, F, F, F, F, F, F, F, F] rfl rfl (any_of HT_.out (by kernel_rfl)) (fun _ _ _ h => h) (Or.inl ⟨by rfl, ?_⟩) ?_ ?_; rotate_left
                     ·intro w'; go_simp; with_reducible rfl
                     rotate_left
                     ·go_simp
                      rfl
                     refine pure_ (i := 1) (N := some 64) (v := ?_) (a' := ?_) #[T, T, F, F, F, F, F, F, F, F] rfl rfl (any_of HT_.out (by kernel_rfl)) (fun _ _ _ h => h) (Or.inl ⟨by rfl, ?_⟩) ?_ ?_; rotate_left
                     ·intro w'; go_simp; with_reducible rfl
                     rotate_left
                     ·go_simp
                      rfl
                     refine pure_ (i := 2) (N := some 65) (v := ?_) (a' := ?_) #[T, T, T, F, F, F, F, F, F, F] rfl rfl (any_of HT_.out (by kernel_rfl)) (fun _ _ _ h => h) (Or.inl ⟨by rfl, ?_⟩) ?_ ?_; rotate_left
                     ·intro w'; go_simp; with_reducible rfl
                     rotate_left
                     ·go_simp
                      rfl
                     refine pure_ (i := 4) (N := some 67) (v := ?_) (a' := ?_) #[T, T, T, F, T, F, F, F, F, F] rfl rfl (any_of HT_.out (by kernel_rfl)) (fun _ _ _ h => h) (Or.inl ⟨by rfl, ?_⟩) ?_ ?_; rotate_left
                     ·intro w'; go_simp; with_reducible rfl
                     rotate_left
                     ·go_simp
                      rfl
                     refine pure_ (i := 5) (N := some 68) (v := ?_) (a' := ?_) #[T, T, T, F, T, T, F, F, F, F] rfl rfl (any_of HT_.out (by kernel_rfl)) (fun _ _ _ h => h) (Or.inl ⟨by rfl, ?_⟩) ?_ ?_; rotate_left
                     ·intro w'; go_simp; with_reducible rfl
                     rotate_left
                     ·go_simp
                      rfl
                     refine pure_ (i := 6) (N := some 69) (v := ?_) (a' := ?_) #[T, T, T, F, T, T, T, F, F, F] rfl rfl (any_of HT_.out (by kernel_rfl)) (fun _ _ _ h => h) (Or.inl ⟨by rfl, ?_⟩) ?_ ?_; rotate_left
                     ·intro w'; go_simp; with_reducible rfl
                     rotate_left
                     ·go_simp
                      rfl
                     refine take_ (i := 3) (N := some 66) (v := ?_) (a' := ?_) #[T, T, T, T, T, T, T, F, F, F] rfl rfl (take_ofW HT_.out HW_.out (by kernel_rfl)) (fun _ _ _ h => h) (Or.inl ⟨by rfl, ?_⟩) hHeld ?_ ?_; rotate_left
                     ·rintro w' ⟨s0, s1, s2, s3, s4, s5, s6, s7⟩; go_simp; with_reducible rfl
                     rotate_left
                     ·go_simp
                      rfl
                     refine take_ (i := 7) (N := some 70) (v := ?_) (a' := ?_) #[T, T, T, T, T, T, T, T, F, F] rfl rfl (take_ofW HT_.out HW_.out (by kernel_rfl)) (fun _ _ _ h => h) (Or.inl ⟨by rfl, ?_⟩) hHeld ?_ ?_; rotate_left
                     ·rintro w' ⟨s0, s1, s2, s3, s4, s5, s6, s7⟩; go_simp; with_reducible rfl
                     rotate_left
                     ·go_simp
                      rfl
                     refine one_ (i := 8) (N := some 71) #[T, T, T, T, T, T, T, T, T, F] rfl rfl (one_of HT_.out (by kernel_rfl)) (by decide) (fun K hK => ?_); refine goes_ Try.func33 (by kernel_rfl) rfl #[.agg #[.int .i64 ((rd_T45 t303 x7_3).f0.f0), .int .i64 ((rd_T45 t303 x7_3).f0.f1), .int .i64 ((rd_T45 t303 x7_3).f1.f0), .int .i64 ((rd_T45 t303 x7_3).f1.f1)], .agg #[.int .i64 ((rd_T45 t303 x8_4).f0.f0), .int .i64 ((rd_T45 t303 x8_4).f0.f1), .int .i64 ((rd_T45 t303 x8_4).f1.f0), .int .i64 ((rd_T45 t303 x8_4).f1.f1)]] (by rfl) rfl rfl (by (try simp only [List.map_toArray, List.map_cons, List.map_nil]); first | done | rfl | (simp only [List.length_drop, List.length_take]; rfl)) ?_; with_reducible refine (mapmakerref09_Relate.calls k4 ((rd_T45 t303 x7_3).f0.f0) ((rd_T45 t303 x7_3).f0.f1) ((rd_T45 t303 x7_3).f1.f0) ((rd_T45 t303 x7_3).f1.f1) ((rd_T45 t303 x8_4).f0.f0) ((rd_T45 t303 x8_4).f0.f1) ((rd_T45 t303 x8_4).f1.f0) ((rd_T45 t303 x8_4).f1.f1) t311 _ A37.out).mono ?_
                     rintro e w61 ⟨rfl, hb⟩; have HS0_ := (hb.cell (World.block_lt_of_cell? _ _ (hHeld.1))).trans (hHeld.1); have HS1_ := (hb.cell (World.block_lt_of_cell? _ _ (hHeld.2.1))).trans (hHeld.2.1); have HS2_ := (hb.cell (World.block_lt_of_cell? _ _ (hHeld.2.2.1))).trans (hHeld.2.2.1); have HS3_ := (hb.cell (World.block_lt_of_cell? _ _ (hHeld.2.2.2.1))).trans (hHeld.2.2.2.1); have HS4_ := (hb.cell (World.block_lt_of_cell? _ _ (hHeld.2.2.2.2.1))).trans (hHeld.2.2.2.2.1); have HS5_ := (hb.cell (World.block_lt_of_cell? _ _ (hHeld.2.2.2.2.2.1))).trans (hHeld.2.2.2.2.2.1); have HS6_ := (hb.cell (World.block_lt_of_cell? _ _ (hHeld.2.2.2.2.2.2.1))).trans (hHeld.2.2.2.2.2.2.1); have HS7_ := (hb.cell (World.block_lt_of_cell? _ _ (hHeld.2.2.2.2.2.2.2))).trans (hHeld.2.2.2.2.2.2.2); refine ⟨_, rfl, ?_⟩; have n0_ := Aside0.mk (Kd.R_below (by (with_reducible repeat (first | apply Kd.R_alloc | apply Kd.R_drewN | apply Kd.R_drew)); exact HO_6.out) hb); have n1_ := Aside0.mk (below_step (bB HB.out) hb); clear HO_6 HB; have HO_6 := n0_; have HB := n1_; clear n0_ n1_; (try clear hb); (try clear hb2); (try clear hk); (try clear hi); refine hK.out _ _ ⟨HS0_, HS1_, HS2_, HS3_, HS4_, HS5_, HS6_, HS7_⟩ (fun hHeld => ?_); clear hK K; refine norm_ (a' := ?_) ?_ ?_; rotate_left
                     ·show Act.put _ (some 71) _ = _; go_simp; rfl
                     refine pure_ (i := 9) (N := some 10) (v := ?_) (a' := ?_) #[T, T, T, T, T, T, T, T, T, T] rfl rfl (any_of HT_.out (by kernel_rfl)) (fun _ _ _ h => h) (Or.inl ⟨by rfl, ?_⟩) ?_ ?_; rotate_left
                     ·intro w'; go_simp; with_reducible rfl
                     rotate_left
                     ·go_simp
                      rfl
                     refine done_ (done_of HT_.out (by kernel_rfl)) ?_
                     try go_wp2
                     go_roundg k4
                     case measure => have := HJ1.out; have := HK2.out; have := HK3.out; have := HK4.out; omega
                     case rel => exact ⟨(wrap64 (x8_4 + 1)), (by first | rfl | (simp; done) | (simp [*]; done)), H', ⟨by have := HJ1.out; have := HK2.out; have := HK3.out; have := HK4.out; omega⟩, ⟨by (with_reducible repeat (first | apply Kd.R_alloc | apply Kd.R_drewN | apply Kd.R_drew)); exact HO_6.out⟩, ⟨bB HB.out⟩⟩
                    ·rw [if_neg c58] at H
                     have c58b0 : (t311 == 0) = false := beq_eq_false_iff_ne.mpr c58; have c58b1 : (t311 != 0) = true := bne_iff_ne.mpr c58; obtain rfl := Option.some.inj H
                     try go_wp2
                     have n0_ := Aside0.mk (Kd.R_drew HO_6.out); have n1_ := Aside0.mk (below_drew1 HB.out); clear HO_6 HB; have HO_6 := n0_; have HB := n1_; clear n0_ n1_; obtain ⟨Ao63, co63, eo63⟩ := Kd.R_slice HO_6.out; (first | subst eo63 | (injection eo63 with f1_ f2_ f3_; have f4_ := f1_.symm; have f5_ := f3_.symm; clear f1_ f2_ f3_; subst f4_; subst f5_)); have p309 : 0 ≤ (x7_3 : Int) := of_decide_eq_true (by first | (with_reducible assumption) | assumption); have q309 : x7_3 < (t303.length : Int) := of_decide_eq_true (by first | (with_reducible assumption) | assumption); obtain ⟨ad309, e309, hx309_0, hx309_1, hx309_2, hx309_3⟩ := at_T45 (Kd.R_reads' HO_6.out).2.2 x7_3 p309 q309
                     cases e309
                     replace p309 := eq_true p309; replace q309 := eq_true q309; have p310 : 0 ≤ (x8_4 : Int) := of_decide_eq_true (by first | (with_reducible assumption) | assumption); have q310 : x8_4 < (t303.length : Int) := of_decide_eq_true (by first | (with_reducible assumption) | assumption); obtain ⟨ad310, e310, hx310_0, hx310_1, hx310_2, hx310_3⟩ := at_T45 (Kd.R_reads' HO_6.out).2.2 x8_4 p310 q310; obtain rfl : ad309 = ad310 := (by injection e310); replace p310 := eq_true p310; replace q310 := eq_true q310; refine start_ (n := 10) (S := fun w' => w'.cell? (ad309.add ((x7_3).toNat * 4)) = some (.int .i64 ((rd_T45 t303 x7_3).f0.f0)) ∧ w'.cell? ⟨(ad309.add ((x7_3).toNat * 4)).block, (ad309.add ((x7_3).toNat * 4)).off + 1, none⟩ = some (.int .i64 ((rd_T45 t303 x7_3).f0.f1)) ∧ w'.cell? ⟨(ad309.add ((x7_3).toNat * 4)).block, (ad309.add ((x7_3).toNat * 4)).off + 2, none⟩ = some (.int .i64 ((rd_T45 t303 x7_3).f1.f0)) ∧ w'.cell? ⟨(ad309.add ((x7_3).toNat * 4)).block, (ad309.add ((x7_3).toNat * 4)).off + 3, none⟩ = some (.int .i64 ((rd_T45 t303 x7_3).f1.f1)) ∧ w'.cell? (ad309.add ((x8_4).toNat * 4)) = some (.int .i64 ((rd_T45 t303 x8_4).f0.f0)) ∧ w'.cell? ⟨(ad309.add ((x8_4).toNat * 4)).block, (ad309.add ((x8_4).toNat * 4)).off + 1, none⟩ = some (.int .i64 ((rd_T45 t303 x8_4).f0.f1)) ∧ w'.cell? ⟨(ad309.add ((x8_4).toNat * 4)).block, (ad309.add ((x8_4).toNat * 4)).off + 2, none⟩ = some (.int .i64 ((rd_T45 t303 x8_4).f1.f0)) ∧ w'.cell? ⟨(ad309.add ((x8_4).toNat * 4)).block, (ad309.add ((x8_4).toNat * 4)).off + 3, none⟩ = some (.int .i64 ((rd_T45 t303 x8_4).f1.f1))) (ds := []) #[F, F, F, F, F, F, F, F, F, F] (by kernel_rfl) rfl rfl ⟨hx309_0, hx309_1, hx309_2, hx309_3, hx310_0, hx310_1, hx310_2, hx310_3⟩ (fun hHeld => ?_); refine with_tabW mapmakerref11_Simple.tab20 mapmakerref11_Simple.bits20 (fun HT_ HW_ => ?_); generalize wr.drew = w62 at HO_6 HB hx309_0 hx309_1 hx309_2 hx309_3 hx310_0 hx310_1 hx310_2 hx310_3 hHeld ⊢
                     refine pure_ (i := 0) (N := some 63) (v := ?_) (a' := ?_) #[T, F, F, F, F, F, F, F, F, F] rfl rfl (any_of HT_.out (by kernel_rfl)) (fun _ _ _ h => h) (Or.inl ⟨by rfl, ?_⟩) ?_ ?_; rotate_left
                     ·intro w'; go_simp; with_reducible rfl
                     rotate_left
                     ·go_simp
                      rfl
                     refine pure_ (i := 1) (N := some 64) (v := ?_) (a' := ?_) #[T, T, F, F, F, F, F, F, F, F] rfl rfl (any_of HT_.out (by kernel_rfl)) (fun _ _ _ h => h) (Or.inl ⟨by rfl, ?_⟩) ?_ ?_; rotate_left
                     ·intro w'; go_simp; with_reducible rfl
                     rotate_left
                     ·go_simp
                      rfl
                     refine pure_ (i := 2) (N := some 65) (v := ?_) (a' := ?_) #[T, T, T, F, F, F, F, F, F, F] rfl rfl (any_of HT_.out (by kernel_rfl)) (fun _ _ _ h => h) (Or.inl ⟨by rfl, ?_⟩) ?_ ?_; rotate_left
                     ·intro w'; go_simp; with_reducible rfl
                     rotate_left
                     ·go_simp
                      rfl
                     refine pure_ (i := 4) (N := some 67) (v := ?_) (a' := ?_) #[T, T, T, F, T, F, F, F, F, F] rfl rfl (any_of HT_.out (by kernel_rfl)) (fun _ _ _ h => h) (Or.inl ⟨by rfl, ?_⟩) ?_ ?_; rotate_left
                     ·intro w'; go_simp; with_reducible rfl
                     rotate_left
                     ·go_simp
                      rfl
                     refine pure_ (i := 5) (N := some 68) (v := ?_) (a' := ?_) #[T, T, T, F, T, T, F, F, F, F] rfl rfl (any_of HT_.out (by kernel_rfl)) (fun _ _ _ h => h) (Or.inl ⟨by rfl, ?_⟩) ?_ ?_; rotate_left
                     ·intro w'; go_simp; with_reducible rfl
                     rotate_left
                     ·go_simp
                      rfl
                     refine pure_ (i := 6) (N := some 69) (v := ?_) (a' := ?_) #[T, T, T, F, T, T, T, F, F, F] rfl rfl (any_of HT_.out (by kernel_rfl)) (fun _ _ _ h => h) (Or.inl ⟨by rfl, ?_⟩) ?_ ?_; rotate_left
                     ·intro w'; go_simp; with_reducible rfl
                     rotate_left
                     ·go_simp
                      rfl
                     refine take_ (i := 3) (N := some 66) (v := ?_) (a' := ?_) #[T, T, T, T, T, T, T, F, F, F] rfl rfl (take_ofW HT_.out HW_.out (by kernel_rfl)) (fun _ _ _ h => h) (Or.inl ⟨by rfl, ?_⟩) hHeld ?_ ?_; rotate_left
                     ·rintro w' ⟨s0, s1, s2, s3, s4, s5, s6, s7⟩; go_simp; with_reducible rfl
                     rotate_left
                     ·go_simp
                      rfl
                     refine take_ (i := 7) (N := some 70) (v := ?_) (a' := ?_) #[T, T, T, T, T, T, T, T, F, F] rfl rfl (take_ofW HT_.out HW_.out (by kernel_rfl)) (fun _ _ _ h => h) (Or.inl ⟨by rfl, ?_⟩) hHeld ?_ ?_; rotate_left
                     ·rintro w' ⟨s0, s1, s2, s3, s4, s5, s6, s7⟩; go_simp; with_reducible rfl
                     rotate_left
                     ·go_simp
                      rfl
                     refine one_ (i := 8) (N := some 71) #[T, T, T, T, T, T, T, T, T, F] rfl rfl (one_of HT_.out (by kernel_rfl)) (by decide) (fun K hK => ?_); refine goes_ Try.func33 (by kernel_rfl) rfl #[.agg #[.int .i64 ((rd_T45 t303 x7_3).f0.f0), .int .i64 ((rd_T45 t303 x7_3).f0.f1), .int .i64 ((rd_T45 t303 x7_3).f1.f0), .int .i64 ((rd_T45 t303 x7_3).f1.f1)], .agg #[.int .i64 ((rd_T45 t303 x8_4).f0.f0), .int .i64 ((rd_T45 t303 x8_4).f0.f1), .int .i64 ((rd_T45 t303 x8_4).f1.f0), .int .i64 ((rd_T45 t303 x8_4).f1.f1)]] (by rfl) rfl rfl (by (try simp only [List.map_toArray, List.map_cons, List.map_nil]); first | done | rfl | (simp only [List.length_drop, List.length_take]; rfl)) ?_; with_reducible refine (mapmakerref09_Relate.calls k4 ((rd_T45 t303 x7_3).f0.f0) ((rd_T45 t303 x7_3).f0.f1) ((rd_T45 t303 x7_3).f1.f0) ((rd_T45 t303 x7_3).f1.f1) ((rd_T45 t303 x8_4).f0.f0) ((rd_T45 t303 x8_4).f0.f1) ((rd_T45 t303 x8_4).f1.f0) ((rd_T45 t303 x8_4).f1.f1) t311 _ A37.out).mono ?_
                     rintro e w64 ⟨rfl, hb⟩; have HS0_ := (hb.cell (World.block_lt_of_cell? _ _ (hHeld.1))).trans (hHeld.1); have HS1_ := (hb.cell (World.block_lt_of_cell? _ _ (hHeld.2.1))).trans (hHeld.2.1); have HS2_ := (hb.cell (World.block_lt_of_cell? _ _ (hHeld.2.2.1))).trans (hHeld.2.2.1); have HS3_ := (hb.cell (World.block_lt_of_cell? _ _ (hHeld.2.2.2.1))).trans (hHeld.2.2.2.1); have HS4_ := (hb.cell (World.block_lt_of_cell? _ _ (hHeld.2.2.2.2.1))).trans (hHeld.2.2.2.2.1); have HS5_ := (hb.cell (World.block_lt_of_cell? _ _ (hHeld.2.2.2.2.2.1))).trans (hHeld.2.2.2.2.2.1); have HS6_ := (hb.cell (World.block_lt_of_cell? _ _ (hHeld.2.2.2.2.2.2.1))).trans (hHeld.2.2.2.2.2.2.1); have HS7_ := (hb.cell (World.block_lt_of_cell? _ _ (hHeld.2.2.2.2.2.2.2))).trans (hHeld.2.2.2.2.2.2.2); refine ⟨_, rfl, ?_⟩; have n0_ := Aside0.mk (Kd.R_below (by (with_reducible repeat (first | apply Kd.R_alloc | apply Kd.R_drewN | apply Kd.R_drew)); exact HO_6.out) hb); have n1_ := Aside0.mk (below_step (bB HB.out) hb); clear HO_6 HB; have HO_6 := n0_; have HB := n1_; clear n0_ n1_; (try clear hb); (try clear hb2); (try clear hk); (try clear hi); refine hK.out _ _ ⟨HS0_, HS1_, HS2_, HS3_, HS4_, HS5_, HS6_, HS7_⟩ (fun hHeld => ?_); clear hK K; refine norm_ (a' := ?_) ?_ ?_; rotate_left
                     ·show Act.put _ (some 71) _ = _; go_simp; rfl
                     refine pure_ (i := 9) (N := some 10) (v := ?_) (a' := ?_) #[T, T, T, T, T, T, T, T, T, T] rfl rfl (any_of HT_.out (by kernel_rfl)) (fun _ _ _ h => h) (Or.inl ⟨by rfl, ?_⟩) ?_ ?_; rotate_left
                     ·intro w'; go_simp; with_reducible rfl
                     rotate_left
                     ·go_simp
                      rfl
                     refine done_ (done_of HT_.out (by kernel_rfl)) ?_
                     try go_wp2
                     go_ret
                     exact ⟨by first | rfl | (simp [errW_none, errW_some] <;> rfl) | (simp [*, errW_none, errW_some] <;> rfl), bB HB.out⟩
                 ·rw [if_neg c36] at H
                  exact absurd H (by simp)
                ·rw [if_neg c35] at H
                 exact absurd H (by simp)
               ·rw [if_neg c34] at H
                exact absurd H (by simp)
              ·rw [if_neg c33] at H
               exact absurd H (by simp)
            ·rw [if_neg c19] at H
             have c19b0 : decide (x8_4 < x7_3) = false := decide_eq_false c19; clear c19; have H' := Aside0.mk H; clear H
             go_wp2
             go_roundg k4
             case measure => have := HJ1.out; have := HK2.out; have := HK3.out; have := HK4.out; omega
             case rel => exact ⟨(wrap64 (x7_3 + 1)), (by first | rfl | (simp; done) | (simp [*]; done)), H', ⟨by have := HJ1.out; have := HK2.out; have := HK3.out; have := HK4.out; omega⟩, ⟨by (with_reducible repeat (first | apply Kd.R_alloc | apply Kd.R_drewN | apply Kd.R_drew)); exact HO_6.out⟩, ⟨bB HB.out⟩⟩
         ·rw [if_neg c18] at H
          have c18b0 : decide (x7_3 < (l0.length : Int)) = false := decide_eq_false c18; clear c18; obtain rfl := Option.some.inj H
          go_wp2
          go_ret
          exact ⟨by first | rfl | (simp [errW_none, errW_some] <;> rfl) | (simp [*, errW_none, errW_some] <;> rfl), bB HB.out⟩

end Go.Proofs.Ytggafoldccikdaa.PAll
