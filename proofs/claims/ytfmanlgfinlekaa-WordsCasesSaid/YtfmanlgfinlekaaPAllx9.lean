-- Written by a program of this session (wip/tools), over the words that print.sh lays. (slim)
import Derived.Test.YtfmanlgfinlekaaPAllx0
namespace Go.Proofs.Ytfmanlgfinlekaa.PAll
open Go.RowKit Go.Proofs.YtfmanlgfinlekaaW.PrintWords Go.Proofs.YtfmanlgfinlekaaW.PrintLast Go.Proofs.YtfmanlgfinlekaaW.PrintMore
attribute [local go_sem] max2_int min2_int max_two min_two max_three min_three max_four min_four   -- for this text's walks alone
set_option linter.unusedVariables false
set_option linter.unusedSimpArgs false
attribute [local irreducible] Calls

/-! ### mapmakerref51_fold: function 19 -/
mutual
def mapmakerref51_fold.j0 : Nat → Int → Bool → Option (ByteArray)
 | 0, _, _ => none
 | k + 1, x0, x14 => if x14 = true then (mapmakerref51_fold.j1 k ((x0 - 32) % 256)) else (mapmakerref51_fold.j1 k x0)
def mapmakerref51_fold.j1 : Nat → Int → Option (ByteArray)
 | 0, _ => none
 | k + 1, x0 => if x0 ≥ 128 then (mapmakerref51_fold.j2 k x0 (decide (x0 ≤ 133))) else (mapmakerref51_fold.j2 k x0 false)
def mapmakerref51_fold.j2 : Nat → Int → Bool → Option (ByteArray)
 | 0, _, _ => none
 | k + 1, x0, x22 => if x22 = true then (some (⟨#[97]⟩ : ByteArray)) else (if x0 = 135 then (some (⟨#[99]⟩ : ByteArray)) else (if x0 ≥ 136 then (mapmakerref51_fold.j3 k x0 (decide (x0 ≤ 139))) else (mapmakerref51_fold.j3 k x0 false)))
def mapmakerref51_fold.j3 : Nat → Int → Bool → Option (ByteArray)
 | 0, _, _ => none
 | k + 1, x0, x30 => if x30 = true then (some (⟨#[101]⟩ : ByteArray)) else (if x0 ≥ 140 then (mapmakerref51_fold.j4 k x0 (decide (x0 ≤ 143))) else (mapmakerref51_fold.j4 k x0 false))
def mapmakerref51_fold.j4 : Nat → Int → Bool → Option (ByteArray)
 | 0, _, _ => none
 | k + 1, x0, x36 => if x36 = true then (some (⟨#[105]⟩ : ByteArray)) else (if x0 = 145 then (some (⟨#[110]⟩ : ByteArray)) else (if x0 ≥ 146 then (if x0 ≤ 150 then (mapmakerref51_fold.j5 k x0 true) else (mapmakerref51_fold.j5 k x0 (x0 == 152))) else (mapmakerref51_fold.j5 k x0 (x0 == 152))))
def mapmakerref51_fold.j5 : Nat → Int → Bool → Option (ByteArray)
 | 0, _, _ => none
 | k + 1, x0, x48 => if x48 = true then (some (⟨#[111]⟩ : ByteArray)) else (if x0 ≥ 153 then (if x0 ≤ 156 then (some (⟨#[117]⟩ : ByteArray)) else (some (⟨#[]⟩ : ByteArray))) else (some (⟨#[]⟩ : ByteArray)))
end
def mapmakerref51_fold.f (k : Nat) (a0 : Int) : Option (ByteArray) := if a0 = 159 then (some (⟨#[115, 115]⟩ : ByteArray)) else (if a0 ≥ 160 then (if a0 ≤ 190 then (mapmakerref51_fold.j0 k a0 (a0 != 183)) else (mapmakerref51_fold.j0 k a0 false)) else (mapmakerref51_fold.j0 k a0 false))
theorem mapmakerref51_fold.mono_l : ∀ k, (∀ y0 y1, LeO (mapmakerref51_fold.j0 k y0 y1) (mapmakerref51_fold.j0 (k + 1) y0 y1)) ∧ (∀ y0, LeO (mapmakerref51_fold.j1 k y0) (mapmakerref51_fold.j1 (k + 1) y0)) ∧ (∀ y0 y1, LeO (mapmakerref51_fold.j2 k y0 y1) (mapmakerref51_fold.j2 (k + 1) y0 y1)) ∧ (∀ y0 y1, LeO (mapmakerref51_fold.j3 k y0 y1) (mapmakerref51_fold.j3 (k + 1) y0 y1)) ∧ (∀ y0 y1, LeO (mapmakerref51_fold.j4 k y0 y1) (mapmakerref51_fold.j4 (k + 1) y0 y1)) ∧ (∀ y0 y1, LeO (mapmakerref51_fold.j5 k y0 y1) (mapmakerref51_fold.j5 (k + 1) y0 y1))
 | 0 => ⟨fun _ _ r h => by simp [mapmakerref51_fold.j0] at h, fun _ r h => by simp [mapmakerref51_fold.j1] at h, fun _ _ r h => by simp [mapmakerref51_fold.j2] at h, fun _ _ r h => by simp [mapmakerref51_fold.j3] at h, fun _ _ r h => by simp [mapmakerref51_fold.j4] at h, fun _ _ r h => by simp [mapmakerref51_fold.j5] at h⟩
 | k + 1 => by
  obtain ⟨ih0, ih1, ih2, ih3, ih4, ih5⟩ := mapmakerref51_fold.mono_l k
  refine ⟨?_, ?_, ?_, ?_, ?_, ?_⟩
  ·intro y0 y1
   unfold mapmakerref51_fold.j0
   repeat' first
   | (with_reducible exact ih0 _ _)
   | (with_reducible exact ih1 _)
   | (with_reducible exact ih2 _ _)
   | (with_reducible exact ih3 _ _)
   | (with_reducible exact ih4 _ _)
   | (with_reducible exact ih5 _ _)
   | (with_reducible exact LeO.refl _)
   | (with_reducible exact LeO.none _)
   | (with_reducible refine LeO.ite ?_ ?_)
   | (with_reducible refine LeO.bind ?_ (fun _ => ?_))
   | exact ih0 _ _
   | exact ih1 _
   | exact ih2 _ _
   | exact ih3 _ _
   | exact ih4 _ _
   | exact ih5 _ _
   | exact LeO.none _
   | refine LeO.ite ?_ ?_
   | refine LeO.bind ?_ (fun _ => ?_)
  ·intro y0
   unfold mapmakerref51_fold.j1
   repeat' first
   | (with_reducible exact ih0 _ _)
   | (with_reducible exact ih1 _)
   | (with_reducible exact ih2 _ _)
   | (with_reducible exact ih3 _ _)
   | (with_reducible exact ih4 _ _)
   | (with_reducible exact ih5 _ _)
   | (with_reducible exact LeO.refl _)
   | (with_reducible exact LeO.none _)
   | (with_reducible refine LeO.ite ?_ ?_)
   | (with_reducible refine LeO.bind ?_ (fun _ => ?_))
   | exact ih0 _ _
   | exact ih1 _
   | exact ih2 _ _
   | exact ih3 _ _
   | exact ih4 _ _
   | exact ih5 _ _
   | exact LeO.none _
   | refine LeO.ite ?_ ?_
   | refine LeO.bind ?_ (fun _ => ?_)
  ·intro y0 y1
   unfold mapmakerref51_fold.j2
   repeat' first
   | (with_reducible exact ih0 _ _)
   | (with_reducible exact ih1 _)
   | (with_reducible exact ih2 _ _)
   | (with_reducible exact ih3 _ _)
   | (with_reducible exact ih4 _ _)
   | (with_reducible exact ih5 _ _)
   | (with_reducible exact LeO.refl _)
   | (with_reducible exact LeO.none _)
   | (with_reducible refine LeO.ite ?_ ?_)
   | (with_reducible refine LeO.bind ?_ (fun _ => ?_))
   | exact ih0 _ _
   | exact ih1 _
   | exact ih2 _ _
   | exact ih3 _ _
   | exact ih4 _ _
   | exact ih5 _ _
   | exact LeO.none _
   | refine LeO.ite ?_ ?_
   | refine LeO.bind ?_ (fun _ => ?_)
  ·intro y0 y1
   unfold mapmakerref51_fold.j3
   repeat' first
   | (with_reducible exact ih0 _ _)
   | (with_reducible exact ih1 _)
   | (with_reducible exact ih2 _ _)
   | (with_reducible exact ih3 _ _)
   | (with_reducible exact ih4 _ _)
   | (with_reducible exact ih5 _ _)
   | (with_reducible exact LeO.refl _)
   | (with_reducible exact LeO.none _)
   | (with_reducible refine LeO.ite ?_ ?_)
   | (with_reducible refine LeO.bind ?_ (fun _ => ?_))
   | exact ih0 _ _
   | exact ih1 _
   | exact ih2 _ _
   | exact ih3 _ _
   | exact ih4 _ _
   | exact ih5 _ _
   | exact LeO.none _
   | refine LeO.ite ?_ ?_
   | refine LeO.bind ?_ (fun _ => ?_)
  ·intro y0 y1
   unfold mapmakerref51_fold.j4
   repeat' first
   | (with_reducible exact ih0 _ _)
   | (with_reducible exact ih1 _)
   | (with_reducible exact ih2 _ _)
   | (with_reducible exact ih3 _ _)
   | (with_reducible exact ih4 _ _)
   | (with_reducible exact ih5 _ _)
   | (with_reducible exact LeO.refl _)
   | (with_reducible exact LeO.none _)
   | (with_reducible refine LeO.ite ?_ ?_)
   | (with_reducible refine LeO.bind ?_ (fun _ => ?_))
   | exact ih0 _ _
   | exact ih1 _
   | exact ih2 _ _
   | exact ih3 _ _
   | exact ih4 _ _
   | exact ih5 _ _
   | exact LeO.none _
   | refine LeO.ite ?_ ?_
   | refine LeO.bind ?_ (fun _ => ?_)
  ·intro y0 y1
   unfold mapmakerref51_fold.j5
   repeat' first
   | (with_reducible exact ih0 _ _)
   | (with_reducible exact ih1 _)
   | (with_reducible exact ih2 _ _)
   | (with_reducible exact ih3 _ _)
   | (with_reducible exact ih4 _ _)
   | (with_reducible exact ih5 _ _)
   | (with_reducible exact LeO.refl _)
   | (with_reducible exact LeO.none _)
   | (with_reducible refine LeO.ite ?_ ?_)
   | (with_reducible refine LeO.bind ?_ (fun _ => ?_))
   | exact ih0 _ _
   | exact ih1 _
   | exact ih2 _ _
   | exact ih3 _ _
   | exact ih4 _ _
   | exact ih5 _ _
   | exact LeO.none _
   | refine LeO.ite ?_ ?_
   | refine LeO.bind ?_ (fun _ => ?_)
theorem mapmakerref51_fold.mono : ∀ a0 k, LeO (mapmakerref51_fold.f k a0) (mapmakerref51_fold.f (k + 1) a0) := by
 intro a0 k
 obtain ⟨ih0, ih1, ih2, ih3, ih4, ih5⟩ := mapmakerref51_fold.mono_l k
 unfold mapmakerref51_fold.f
 repeat' first
   | (with_reducible exact ih0 _ _)
   | (with_reducible exact ih1 _)
   | (with_reducible exact ih2 _ _)
   | (with_reducible exact ih3 _ _)
   | (with_reducible exact ih4 _ _)
   | (with_reducible exact ih5 _ _)
   | (with_reducible exact LeO.refl _)
   | (with_reducible exact LeO.none _)
   | (with_reducible refine LeO.ite ?_ ?_)
   | (with_reducible refine LeO.bind ?_ (fun _ => ?_))
   | exact ih0 _ _
   | exact ih1 _
   | exact ih2 _ _
   | exact ih3 _ _
   | exact ih4 _ _
   | exact ih5 _ _
   | exact LeO.none _
   | refine LeO.ite ?_ ?_
   | refine LeO.bind ?_ (fun _ => ?_)
set_option maxHeartbeats 8000000 in
set_option maxRecDepth 100000 in
theorem mapmakerref51_fold.calls (k : Nat) (a0 : Int) (r : ByteArray) (w : World) (h : mapmakerref51_fold.f k a0 = some r) :
  Calls Try.prog 19 #[.int .u8 a0] w fun e w' => e = .returned (.string r) ∧ Drawn0 w w' := by
 have H : (if a0 = 159 then (some (⟨#[115, 115]⟩ : ByteArray)) else (if a0 ≥ 160 then (if a0 ≤ 190 then (mapmakerref51_fold.j0 k a0 (a0 != 183)) else (mapmakerref51_fold.j0 k a0 false)) else (mapmakerref51_fold.j0 k a0 false))) = some r := h
 clear h
 by_cases c2 : a0 = 159
 ·rw [if_pos c2] at H
  have c2b0 : (a0 == 159) = true := beq_iff_eq.mpr c2
  have c2b1 : (a0 != 159) = false := bne_eq_false_iff_eq.mpr c2
  clear c2
  obtain rfl := Option.some.inj H
  go_enter Try.func19, Try.ntmps19
  go_wp2
  go_ret
  exact ⟨by first | rfl | (simp; done) | (simp [*]; done), by repeat (first | exact Drawn0.refl _ | apply Drawn0.step)⟩
 ·rw [if_neg c2] at H
  have c2b0 : (a0 == 159) = false := beq_eq_false_iff_ne.mpr c2
  have c2b1 : (a0 != 159) = true := bne_iff_ne.mpr c2
  have HC3 := Aside0.mk H
  clear H
  go_enter Try.func19, Try.ntmps19
  go_upto_region 3 with (fail)
  go_cut [14] (fun v14 wc => ∃ (kq : Nat) (x14_2 : Bool), v14 = .bool x14_2 ∧ Aside0 (mapmakerref51_fold.j0 kq a0 x14_2 = some r) ∧ Aside0 (kq ≤ k) ∧ Drawn0 w wc)
  case first =>
   have H := HC3.out
   clear HC3
   by_cases c4 : a0 ≥ 160
   ·rw [if_pos c4] at H
    have c4b0 : decide (160 ≤ a0) = true := decide_eq_true c4
    clear c4
    (first | rw [c4b0] | (simp only [i64_w, i32_w]; rw [c4b0]) | skip)
    by_cases c5 : a0 ≤ 190
    ·rw [if_pos c5] at H
     have c5b0 : decide (a0 ≤ 190) = true := decide_eq_true c5
     clear c5
     have H' := Aside0.mk H
     clear H
     go_wp2
     go_meet
     case rel => exact ⟨_, ((a0 != 183)), (by first | rfl | (simp; done) | (simp [*]; done)), H', ⟨by first | omega | exact Nat.le_refl _⟩, by repeat (first | exact Drawn0.refl _ | apply Drawn0.step)⟩
    ·rw [if_neg c5] at H
     have c5b0 : decide (a0 ≤ 190) = false := decide_eq_false c5
     clear c5
     have H' := Aside0.mk H
     clear H
     go_wp2
     go_meet
     case rel => exact ⟨_, (false), (by first | rfl | (simp; done) | (simp [*]; done)), H', ⟨by first | omega | exact Nat.le_refl _⟩, by repeat (first | exact Drawn0.refl _ | apply Drawn0.step)⟩
   ·rw [if_neg c4] at H
    have c4b0 : decide (160 ≤ a0) = false := decide_eq_false c4
    clear c4
    (first | rw [c4b0] | (simp only [i64_w, i32_w]; rw [c4b0]) | skip)
    have H' := Aside0.mk H
    clear H
    go_wp2
    go_meet
    case rel => exact ⟨_, (false), (by first | rfl | (simp; done) | (simp [*]; done)), H', ⟨by first | omega | exact Nat.le_refl _⟩, by repeat (first | exact Drawn0.refl _ | apply Drawn0.step)⟩
  case rest =>
   clear HC3
   try clear c1
   try clear c2
   try clear c2b0
   try clear c2b1
   try clear p2
   try clear c4
   try clear c4b0
   try clear c5
   try clear c5b0
   obtain ⟨kq, x14_2, rfl, HA, HJ2, ⟨mc2, rfl⟩⟩ := hcut
   cases kq with
   | zero => exact absurd HA.out (by simp [mapmakerref51_fold.j0])
   | succ kj2 =>
    have H := HA.out
    clear HA
    simp only [mapmakerref51_fold.j0] at H
    have HC6 := Aside0.mk H
    clear H
    go_upto_if 14 with (fail)
    go_cut [0] (fun v0 wc => ∃ (kq : Nat) (x0_5 : Int), v0 = .int .u8 x0_5 ∧ Aside0 (mapmakerref51_fold.j1 kq x0_5 = some r) ∧ Aside0 (kq ≤ kj2) ∧ Drawn0 w wc)
    case first =>
     have H := HC6.out
     clear HC6
     by_cases c7 : x14_2 = true
     ·subst c7
      have H1 : (mapmakerref51_fold.j1 kj2 ((a0 - 32) % 256)) = some r := by rw [if_pos rfl] at H; exact H
      clear H
      have H := H1
      clear H1
      have H' := Aside0.mk H
      clear H
      go_wp2
      go_meet
      case rel => exact ⟨_, ((a0 - 32) % 256), (by first | rfl | (simp; done) | (simp [*]; done)), H', ⟨by have := HJ2.out; first | omega | exact Nat.le_refl _⟩, by repeat (first | exact Drawn0.refl _ | apply Drawn0.step)⟩
     ·replace c7 := Bool.eq_false_iff.mpr c7
      subst c7
      have H1 : (mapmakerref51_fold.j1 kj2 a0) = some r := by rw [if_neg (show ¬ (false = true) by decide)] at H; exact H
      clear H
      have H := H1
      clear H1
      have H' := Aside0.mk H
      clear H
      go_wp2
      go_meet
      case rel => exact ⟨_, (a0), (by first | rfl | (simp; done) | (simp [*]; done)), H', ⟨by have := HJ2.out; first | omega | exact Nat.le_refl _⟩, by repeat (first | exact Drawn0.refl _ | apply Drawn0.step)⟩
    case rest =>
     clear HC6
     try clear c1
     try clear c2
     try clear c2b0
     try clear c2b1
     try clear p2
     try clear c4
     try clear c4b0
     try clear c5
     try clear c5b0
     try clear c7
     try clear p2
     obtain ⟨kq, x0_5, rfl, HA, HJ5, ⟨mc5, rfl⟩⟩ := hcut
     cases kq with
     | zero => exact absurd HA.out (by simp [mapmakerref51_fold.j1])
     | succ kj5 =>
      have H := HA.out
      clear HA
      simp only [mapmakerref51_fold.j1] at H
      have HC8 := Aside0.mk H
      clear H
      go_upto_region 5 with (fail)
      go_cut [22] (fun v22 wc => ∃ (kq : Nat) (x22_7 : Bool), v22 = .bool x22_7 ∧ Aside0 (mapmakerref51_fold.j2 kq x0_5 x22_7 = some r) ∧ Aside0 (kq ≤ kj5) ∧ Drawn0 w wc)
      case first =>
       have H := HC8.out
       clear HC8
       by_cases c9 : x0_5 ≥ 128
       ·rw [if_pos c9] at H
        have c9b0 : decide (128 ≤ x0_5) = true := decide_eq_true c9
        clear c9
        (first | rw [c9b0] | (simp only [i64_w, i32_w]; rw [c9b0]) | skip)
        have H' := Aside0.mk H
        clear H
        go_wp2
        go_meet
        case rel => exact ⟨_, (decide (x0_5 ≤ 133)), (by first | rfl | (simp; done) | (simp [*]; done)), H', ⟨by have := HJ2.out; have := HJ5.out; first | omega | exact Nat.le_refl _⟩, by repeat (first | exact Drawn0.refl _ | apply Drawn0.step)⟩
       ·rw [if_neg c9] at H
        have c9b0 : decide (128 ≤ x0_5) = false := decide_eq_false c9
        clear c9
        (first | rw [c9b0] | (simp only [i64_w, i32_w]; rw [c9b0]) | skip)
        have H' := Aside0.mk H
        clear H
        go_wp2
        go_meet
        case rel => exact ⟨_, (false), (by first | rfl | (simp; done) | (simp [*]; done)), H', ⟨by have := HJ2.out; have := HJ5.out; first | omega | exact Nat.le_refl _⟩, by repeat (first | exact Drawn0.refl _ | apply Drawn0.step)⟩
      case rest =>
       clear HC8
       try clear c1
       try clear c2
       try clear c2b0
       try clear c2b1
       try clear p2
       try clear c4
       try clear c4b0
       try clear c5
       try clear c5b0
       try clear c7
       try clear c9
       try clear c9b0
       try clear p2
       obtain ⟨kq, x22_7, rfl, HA, HJ7, ⟨mc7, rfl⟩⟩ := hcut
       cases kq with
       | zero => exact absurd HA.out (by simp [mapmakerref51_fold.j2])
       | succ kj7 =>
        have H := HA.out
        clear HA
        simp only [mapmakerref51_fold.j2] at H
        by_cases c10 : x22_7 = true
        ·subst c10
         have H1 : (some (⟨#[97]⟩ : ByteArray)) = some r := by rw [if_pos rfl] at H; exact H
         clear H
         have H := H1
         clear H1
         obtain rfl := Option.some.inj H
         go_wp2
         go_ret
         exact ⟨by first | rfl | (simp; done) | (simp [*]; done), by repeat (first | exact Drawn0.refl _ | apply Drawn0.step)⟩
        ·replace c10 := Bool.eq_false_iff.mpr c10
         subst c10
         have H1 : (if x0_5 = 135 then (some (⟨#[99]⟩ : ByteArray)) else (if x0_5 ≥ 136 then (mapmakerref51_fold.j3 kj7 x0_5 (decide (x0_5 ≤ 139))) else (mapmakerref51_fold.j3 kj7 x0_5 false))) = some r := by rw [if_neg (show ¬ (false = true) by decide)] at H; exact H
         clear H
         have H := H1
         clear H1
         by_cases c11 : x0_5 = 135
         ·rw [if_pos c11] at H
          have c11b0 : (x0_5 == 135) = true := beq_iff_eq.mpr c11
          have c11b1 : (x0_5 != 135) = false := bne_eq_false_iff_eq.mpr c11
          clear c11
          obtain rfl := Option.some.inj H
          go_wp2
          go_ret
          exact ⟨by first | rfl | (simp; done) | (simp [*]; done), by repeat (first | exact Drawn0.refl _ | apply Drawn0.step)⟩
         ·rw [if_neg c11] at H
          have c11b0 : (x0_5 == 135) = false := beq_eq_false_iff_ne.mpr c11
          have c11b1 : (x0_5 != 135) = true := bne_iff_ne.mpr c11
          have HC12 := Aside0.mk H
          clear H
          go_upto_region 9 with (fail)
          go_cut [30] (fun v30 wc => ∃ (kq : Nat) (x30_11 : Bool), v30 = .bool x30_11 ∧ Aside0 (mapmakerref51_fold.j3 kq x0_5 x30_11 = some r) ∧ Aside0 (kq ≤ kj7) ∧ Drawn0 w wc)
          case first =>
           have H := HC12.out
           clear HC12
           by_cases c13 : x0_5 ≥ 136
           ·rw [if_pos c13] at H
            have c13b0 : decide (136 ≤ x0_5) = true := decide_eq_true c13
            clear c13
            (first | rw [c13b0] | (simp only [i64_w, i32_w]; rw [c13b0]) | skip)
            have H' := Aside0.mk H
            clear H
            go_wp2
            go_meet
            case rel => exact ⟨_, (decide (x0_5 ≤ 139)), (by first | rfl | (simp; done) | (simp [*]; done)), H', ⟨by have := HJ2.out; have := HJ5.out; have := HJ7.out; first | omega | exact Nat.le_refl _⟩, by repeat (first | exact Drawn0.refl _ | apply Drawn0.step)⟩
           ·rw [if_neg c13] at H
            have c13b0 : decide (136 ≤ x0_5) = false := decide_eq_false c13
            clear c13
            (first | rw [c13b0] | (simp only [i64_w, i32_w]; rw [c13b0]) | skip)
            have H' := Aside0.mk H
            clear H
            go_wp2
            go_meet
            case rel => exact ⟨_, (false), (by first | rfl | (simp; done) | (simp [*]; done)), H', ⟨by have := HJ2.out; have := HJ5.out; have := HJ7.out; first | omega | exact Nat.le_refl _⟩, by repeat (first | exact Drawn0.refl _ | apply Drawn0.step)⟩
          case rest =>
           clear HC12
           try clear c1
           try clear c2
           try clear c2b0
           try clear c2b1
           try clear p2
           try clear c4
           try clear c4b0
           try clear c5
           try clear c5b0
           try clear c7
           try clear c9
           try clear c9b0
           try clear c10
           try clear c11
           try clear c11b0
           try clear c11b1
           try clear c13
           try clear c13b0
           try clear p2
           obtain ⟨kq, x30_11, rfl, HA, HJ11, ⟨mc11, rfl⟩⟩ := hcut
           cases kq with
           | zero => exact absurd HA.out (by simp [mapmakerref51_fold.j3])
           | succ kj11 =>
            have H := HA.out
            clear HA
            simp only [mapmakerref51_fold.j3] at H
            by_cases c14 : x30_11 = true
            ·subst c14
             have H1 : (some (⟨#[101]⟩ : ByteArray)) = some r := by rw [if_pos rfl] at H; exact H
             clear H
             have H := H1
             clear H1
             obtain rfl := Option.some.inj H
             go_wp2
             go_ret
             exact ⟨by first | rfl | (simp; done) | (simp [*]; done), by repeat (first | exact Drawn0.refl _ | apply Drawn0.step)⟩
            ·replace c14 := Bool.eq_false_iff.mpr c14
             subst c14
             have H1 : (if x0_5 ≥ 140 then (mapmakerref51_fold.j4 kj11 x0_5 (decide (x0_5 ≤ 143))) else (mapmakerref51_fold.j4 kj11 x0_5 false)) = some r := by rw [if_neg (show ¬ (false = true) by decide)] at H; exact H
             clear H
             have H := H1
             clear H1
             have HC15 := Aside0.mk H
             clear H
             go_upto_region 11 with (fail)
             go_cut [36] (fun v36 wc => ∃ (kq : Nat) (x36_14 : Bool), v36 = .bool x36_14 ∧ Aside0 (mapmakerref51_fold.j4 kq x0_5 x36_14 = some r) ∧ Aside0 (kq ≤ kj11) ∧ Drawn0 w wc)
             case first =>
              have H := HC15.out
              clear HC15
              by_cases c16 : x0_5 ≥ 140
              ·rw [if_pos c16] at H
               have c16b0 : decide (140 ≤ x0_5) = true := decide_eq_true c16
               clear c16
               (first | rw [c16b0] | (simp only [i64_w, i32_w]; rw [c16b0]) | skip)
               have H' := Aside0.mk H
               clear H
               go_wp2
               go_meet
               case rel => exact ⟨_, (decide (x0_5 ≤ 143)), (by first | rfl | (simp; done) | (simp [*]; done)), H', ⟨by have := HJ2.out; have := HJ5.out; have := HJ7.out; have := HJ11.out; first | omega | exact Nat.le_refl _⟩, by repeat (first | exact Drawn0.refl _ | apply Drawn0.step)⟩
              ·rw [if_neg c16] at H
               have c16b0 : decide (140 ≤ x0_5) = false := decide_eq_false c16
               clear c16
               (first | rw [c16b0] | (simp only [i64_w, i32_w]; rw [c16b0]) | skip)
               have H' := Aside0.mk H
               clear H
               go_wp2
               go_meet
               case rel => exact ⟨_, (false), (by first | rfl | (simp; done) | (simp [*]; done)), H', ⟨by have := HJ2.out; have := HJ5.out; have := HJ7.out; have := HJ11.out; first | omega | exact Nat.le_refl _⟩, by repeat (first | exact Drawn0.refl _ | apply Drawn0.step)⟩
             case rest =>
              clear HC15
              try clear c1
              try clear c2
              try clear c2b0
              try clear c2b1
              try clear p2
              try clear c4
              try clear c4b0
              try clear c5
              try clear c5b0
              try clear c7
              try clear c9
              try clear c9b0
              try clear c10
              try clear c11
              try clear c11b0
              try clear c11b1
              try clear c13
              try clear c13b0
              try clear c14
              try clear c16
              try clear c16b0
              try clear p2
              obtain ⟨kq, x36_14, rfl, HA, HJ14, ⟨mc14, rfl⟩⟩ := hcut
              cases kq with
              | zero => exact absurd HA.out (by simp [mapmakerref51_fold.j4])
              | succ kj14 =>
               have H := HA.out
               clear HA
               simp only [mapmakerref51_fold.j4] at H
               by_cases c17 : x36_14 = true
               ·subst c17
                have H1 : (some (⟨#[105]⟩ : ByteArray)) = some r := by rw [if_pos rfl] at H; exact H
                clear H
                have H := H1
                clear H1
                obtain rfl := Option.some.inj H
                go_wp2
                go_ret
                exact ⟨by first | rfl | (simp; done) | (simp [*]; done), by repeat (first | exact Drawn0.refl _ | apply Drawn0.step)⟩
               ·replace c17 := Bool.eq_false_iff.mpr c17
                subst c17
                have H1 : (if x0_5 = 145 then (some (⟨#[110]⟩ : ByteArray)) else (if x0_5 ≥ 146 then (if x0_5 ≤ 150 then (mapmakerref51_fold.j5 kj14 x0_5 true) else (mapmakerref51_fold.j5 kj14 x0_5 (x0_5 == 152))) else (mapmakerref51_fold.j5 kj14 x0_5 (x0_5 == 152)))) = some r := by rw [if_neg (show ¬ (false = true) by decide)] at H; exact H
                clear H
                have H := H1
                clear H1
                by_cases c18 : x0_5 = 145
                ·rw [if_pos c18] at H
                 have c18b0 : (x0_5 == 145) = true := beq_iff_eq.mpr c18
                 have c18b1 : (x0_5 != 145) = false := bne_eq_false_iff_eq.mpr c18
                 clear c18
                 obtain rfl := Option.some.inj H
                 go_wp2
                 go_ret
                 exact ⟨by first | rfl | (simp; done) | (simp [*]; done), by repeat (first | exact Drawn0.refl _ | apply Drawn0.step)⟩
                ·rw [if_neg c18] at H
                 have c18b0 : (x0_5 == 145) = false := beq_eq_false_iff_ne.mpr c18
                 have c18b1 : (x0_5 != 145) = true := bne_iff_ne.mpr c18
                 have HC19 := Aside0.mk H
                 clear H
                 go_upto_region 15 with (fail)
                 go_cut [48] (fun v48 wc => ∃ (kq : Nat) (x48_18 : Bool), v48 = .bool x48_18 ∧ Aside0 (mapmakerref51_fold.j5 kq x0_5 x48_18 = some r) ∧ Aside0 (kq ≤ kj14) ∧ Drawn0 w wc)
                 case first =>
                  have H := HC19.out
                  clear HC19
                  by_cases c20 : x0_5 ≥ 146
                  ·rw [if_pos c20] at H
                   have c20b0 : decide (146 ≤ x0_5) = true := decide_eq_true c20
                   clear c20
                   (first | rw [c20b0] | (simp only [i64_w, i32_w]; rw [c20b0]) | skip)
                   by_cases c21 : x0_5 ≤ 150
                   ·rw [if_pos c21] at H
                    have c21b0 : decide (x0_5 ≤ 150) = true := decide_eq_true c21
                    clear c21
                    have H' := Aside0.mk H
                    clear H
                    go_wp2
                    go_meet
                    case rel => exact ⟨_, (true), (by first | rfl | (simp; done) | (simp [*]; done)), H', ⟨by have := HJ2.out; have := HJ5.out; have := HJ7.out; have := HJ11.out; have := HJ14.out; first | omega | exact Nat.le_refl _⟩, by repeat (first | exact Drawn0.refl _ | apply Drawn0.step)⟩
                   ·rw [if_neg c21] at H
                    have c21b0 : decide (x0_5 ≤ 150) = false := decide_eq_false c21
                    clear c21
                    have H' := Aside0.mk H
                    clear H
                    go_wp2
                    go_meet
                    case rel => exact ⟨_, ((x0_5 == 152)), (by first | rfl | (simp; done) | (simp [*]; done)), H', ⟨by have := HJ2.out; have := HJ5.out; have := HJ7.out; have := HJ11.out; have := HJ14.out; first | omega | exact Nat.le_refl _⟩, by repeat (first | exact Drawn0.refl _ | apply Drawn0.step)⟩
                  ·rw [if_neg c20] at H
                   have c20b0 : decide (146 ≤ x0_5) = false := decide_eq_false c20
                   clear c20
                   (first | rw [c20b0] | (simp only [i64_w, i32_w]; rw [c20b0]) | skip)
                   have H' := Aside0.mk H
                   clear H
                   go_wp2
                   go_meet
                   case rel => exact ⟨_, ((x0_5 == 152)), (by first | rfl | (simp; done) | (simp [*]; done)), H', ⟨by have := HJ2.out; have := HJ5.out; have := HJ7.out; have := HJ11.out; have := HJ14.out; first | omega | exact Nat.le_refl _⟩, by repeat (first | exact Drawn0.refl _ | apply Drawn0.step)⟩
                 case rest =>
                  clear HC19
                  try clear c1
                  try clear c2
                  try clear c2b0
                  try clear c2b1
                  try clear p2
                  try clear c4
                  try clear c4b0
                  try clear c5
                  try clear c5b0
                  try clear c7
                  try clear c9
                  try clear c9b0
                  try clear c10
                  try clear c11
                  try clear c11b0
                  try clear c11b1
                  try clear c13
                  try clear c13b0
                  try clear c14
                  try clear c16
                  try clear c16b0
                  try clear c17
                  try clear c18
                  try clear c18b0
                  try clear c18b1
                  try clear c19
                  try clear c20
                  try clear c20b0
                  try clear c21
                  try clear c21b0
                  try clear p2
                  obtain ⟨kq, x48_18, rfl, HA, HJ18, ⟨mc18, rfl⟩⟩ := hcut
                  cases kq with
                  | zero => exact absurd HA.out (by simp [mapmakerref51_fold.j5])
                  | succ kj18 =>
                   have H := HA.out
                   clear HA
                   simp only [mapmakerref51_fold.j5] at H
                   by_cases c22 : x48_18 = true
                   ·subst c22
                    have H1 : (some (⟨#[111]⟩ : ByteArray)) = some r := by rw [if_pos rfl] at H; exact H
                    clear H
                    have H := H1
                    clear H1
                    obtain rfl := Option.some.inj H
                    go_wp2
                    go_ret
                    exact ⟨by first | rfl | (simp; done) | (simp [*]; done), by repeat (first | exact Drawn0.refl _ | apply Drawn0.step)⟩
                   ·replace c22 := Bool.eq_false_iff.mpr c22
                    subst c22
                    have H1 : (if x0_5 ≥ 153 then (if x0_5 ≤ 156 then (some (⟨#[117]⟩ : ByteArray)) else (some (⟨#[]⟩ : ByteArray))) else (some (⟨#[]⟩ : ByteArray))) = some r := by rw [if_neg (show ¬ (false = true) by decide)] at H; exact H
                    clear H
                    have H := H1
                    clear H1
                    by_cases c23 : x0_5 ≥ 153
                    ·rw [if_pos c23] at H
                     have c23b0 : decide (153 ≤ x0_5) = true := decide_eq_true c23
                     clear c23
                     by_cases c24 : x0_5 ≤ 156
                     ·rw [if_pos c24] at H
                      have c24b0 : decide (x0_5 ≤ 156) = true := decide_eq_true c24
                      clear c24
                      obtain rfl := Option.some.inj H
                      go_wp2
                      go_ret
                      exact ⟨by first | rfl | (simp; done) | (simp [*]; done), by repeat (first | exact Drawn0.refl _ | apply Drawn0.step)⟩
                     ·rw [if_neg c24] at H
                      have c24b0 : decide (x0_5 ≤ 156) = false := decide_eq_false c24
                      clear c24
                      obtain rfl := Option.some.inj H
                      go_wp2
                      go_ret
                      exact ⟨by first | rfl | (simp; done) | (simp [*]; done), by repeat (first | exact Drawn0.refl _ | apply Drawn0.step)⟩
                    ·rw [if_neg c23] at H
                     have c23b0 : decide (153 ≤ x0_5) = false := decide_eq_false c23
                     clear c23
                     obtain rfl := Option.some.inj H
                     go_wp2
                     go_ret
                     exact ⟨by first | rfl | (simp; done) | (simp [*]; done), by repeat (first | exact Drawn0.refl _ | apply Drawn0.step)⟩

end Go.Proofs.Ytfmanlgfinlekaa.PAll
