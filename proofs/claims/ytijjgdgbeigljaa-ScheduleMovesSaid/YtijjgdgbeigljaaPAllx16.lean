-- Written by a program of this session (wip/tools), over the words that print.sh lays.
import Derived.Test.YtijjgdgbeigljaaPAllx0
import Derived.Test.YtijjgdgbeigljaaPAllx1
import Derived.Test.YtijjgdgbeigljaaPAllx3
import Derived.Test.YtijjgdgbeigljaaPAllx4
import Derived.Test.YtijjgdgbeigljaaPAllx5
import Derived.Test.YtijjgdgbeigljaaPAllx6
namespace Go.Proofs.Ytijjgdgbeigljaa.PAll
open Go.RowKit Go.Proofs.YtijjgdgbeigljaaW.PrintWords Go.Proofs.YtijjgdgbeigljaaW.PrintLast Go.Proofs.YtijjgdgbeigljaaW.PrintMore
attribute [local go_sem] max2_int min2_int max_two min_two max_three min_three max_four min_four   -- for this text's walks alone
set_option linter.unusedVariables false
set_option linter.unusedSimpArgs false
attribute [local irreducible] Calls

/-! ### mapmakerlaw07_ScheduleMoves: function 7 -/
def mapmakerlaw07_ScheduleMoves.j0 : Nat → Int → Int → Bool → List (S35) → Int → Int → Option (Bool)
  | 0, _, _, _, _, _, _ => none
  | k + 1, x1, x2, x27, x170000, x170001, x170002 => if x27 = true then ((mapmakerlaw07_lives.f k).bind fun t170 => (some t170)) else ((schedule_Next.f k x170000 x170001 x170002 x1).bind fun bt171 => ((schedule_Next.f k x170000 x170001 x170002 x2).bind fun bt173 => ((schedule_Check.f k x170000 x170001 x170002).bind fun t175 => (if t175 = 0 then (if (bt171.2 != bt173.2) = true then (none) else (if bt171.2 = true then (if bt171.1 ≥ x1 then (if bt171.1 < (wrap64 (x1 + 1440)) then (if bt173.1 ≥ x2 then (if bt173.1 < (wrap64 (x2 + 1440)) then (if bt171.1 ≤ bt173.1 then ((schedule_Open.f k x170000 x170001 x170002 bt171.1).bind fun t182 => (if t182 = true then ((schedule_Open.f k x170000 x170001 x170002 bt173.1).bind fun t183 => (if t183 = true then ((schedule_Open.f k x170000 x170001 x170002 x1).bind fun t184 => (if (t184 == (bt171.1 == x1)) = true then (if ((bt173.1 == bt171.1) == (decide (bt171.1 ≥ x2))) = true then ((mapmakerlaw07_lives.f k).bind fun t185 => (some t185)) else (none)) else (none))) else (none))) else (none))) else (none)) else (none)) else (none)) else (none)) else (none)) else (if bt171.1 = 0 then (if bt173.1 = 0 then ((schedule_Open.f k x170000 x170001 x170002 x1).bind fun t179 => (if t179 = true then (none) else ((schedule_Open.f k x170000 x170001 x170002 x2).bind fun t180 => (if t180 = true then (none) else ((mapmakerlaw07_lives.f k).bind fun t181 => (some t181)))))) else (none)) else (none)))) else (if bt171.2 = true then (none) else (if bt173.2 = true then (none) else (if bt171.1 = 0 then (if bt173.1 = 0 then ((schedule_Open.f k x170000 x170001 x170002 x1).bind fun t176 => (if t176 = true then (none) else ((schedule_Free.f k x170000 x170001 x170002).bind fun t177 => (if t177 = true then (none) else ((mapmakerlaw07_lives.f k).bind fun t178 => (some t178)))))) else (none)) else (none))))))))
def mapmakerlaw07_ScheduleMoves.f (k : Nat) (l0_0 : List (S35)) (a0_1 : Int) (a0_2 : Int) (a1 : Int) (a2 : Int) : Option (Bool) := if (l0_0.length : Int) > 40 then (mapmakerlaw07_ScheduleMoves.j0 k a1 a2 true l0_0 a0_1 a0_2) else (if a1 < 0 then (mapmakerlaw07_ScheduleMoves.j0 k a1 a2 true l0_0 a0_1 a0_2) else (if a2 < a1 then (mapmakerlaw07_ScheduleMoves.j0 k a1 a2 true l0_0 a0_1 a0_2) else (mapmakerlaw07_ScheduleMoves.j0 k a1 a2 (decide (a2 > 1099511627776)) l0_0 a0_1 a0_2)))
theorem mapmakerlaw07_ScheduleMoves.mono_l : ∀ k, (∀ y0 y1 y2 y3 y4 y5, LeO (mapmakerlaw07_ScheduleMoves.j0 k y0 y1 y2 y3 y4 y5) (mapmakerlaw07_ScheduleMoves.j0 (k + 1) y0 y1 y2 y3 y4 y5))
  | 0 => fun _ _ _ _ _ _ r h => by simp [mapmakerlaw07_ScheduleMoves.j0] at h
  | k + 1 => by
    have ih0 := mapmakerlaw07_ScheduleMoves.mono_l k
    · intro y0 y1 y2 y3 y4 y5
      unfold mapmakerlaw07_ScheduleMoves.j0
      repeat' first
      | (with_reducible exact ih0 _ _ _ _ _ _)
      | (with_reducible exact mapmakerlaw07_lives.mono _)
      | (with_reducible exact schedule_Check.mono _ _ _ _)
      | (with_reducible exact schedule_Free.mono _ _ _ _)
      | (with_reducible exact schedule_Next.mono _ _ _ _ _)
      | (with_reducible exact schedule_Open.mono _ _ _ _ _)
      | (with_reducible exact LeO.refl _)
      | (with_reducible exact LeO.none _)
      | (with_reducible refine LeO.ite ?_ ?_)
      | (with_reducible refine LeO.bind ?_ (fun _ => ?_))
      | exact ih0 _ _ _ _ _ _
      | exact mapmakerlaw07_lives.mono _
      | exact schedule_Check.mono _ _ _ _
      | exact schedule_Free.mono _ _ _ _
      | exact schedule_Next.mono _ _ _ _ _
      | exact schedule_Open.mono _ _ _ _ _
      | exact LeO.none _
      | refine LeO.ite ?_ ?_
      | refine LeO.bind ?_ (fun _ => ?_)
theorem mapmakerlaw07_ScheduleMoves.mono : ∀ a0 a1 a2 a3 a4 k, LeO (mapmakerlaw07_ScheduleMoves.f k a0 a1 a2 a3 a4) (mapmakerlaw07_ScheduleMoves.f (k + 1) a0 a1 a2 a3 a4) := by
  intro a0 a1 a2 a3 a4 k
  have ih0 := mapmakerlaw07_ScheduleMoves.mono_l k
  unfold mapmakerlaw07_ScheduleMoves.f
  repeat' first
      | (with_reducible exact ih0 _ _ _ _ _ _)
      | (with_reducible exact mapmakerlaw07_lives.mono _)
      | (with_reducible exact schedule_Check.mono _ _ _ _)
      | (with_reducible exact schedule_Free.mono _ _ _ _)
      | (with_reducible exact schedule_Next.mono _ _ _ _ _)
      | (with_reducible exact schedule_Open.mono _ _ _ _ _)
      | (with_reducible exact LeO.refl _)
      | (with_reducible exact LeO.none _)
      | (with_reducible refine LeO.ite ?_ ?_)
      | (with_reducible refine LeO.bind ?_ (fun _ => ?_))
      | exact ih0 _ _ _ _ _ _
      | exact mapmakerlaw07_lives.mono _
      | exact schedule_Check.mono _ _ _ _
      | exact schedule_Free.mono _ _ _ _
      | exact schedule_Next.mono _ _ _ _ _
      | exact schedule_Open.mono _ _ _ _ _
      | exact LeO.none _
      | refine LeO.ite ?_ ?_
      | refine LeO.bind ?_ (fun _ => ?_)
set_option maxHeartbeats 8000000 in
set_option maxRecDepth 100000 in
theorem mapmakerlaw07_ScheduleMoves.calls (k : Nat) (A0_0 : Option Addr) (c0_0 : Nat) (l0_0 : List (S35)) (a0_1 : Int) (a0_2 : Int) (a1 : Int) (a2 : Int) (r : Bool) (w : World) (hr0_0 : Kd.C k35 w A0_0 l0_0.length l0_0) (hc0_0 : l0_0.length ≤ c0_0) (h : mapmakerlaw07_ScheduleMoves.f k l0_0 a0_1 a0_2 a1 a2 = some r) :
    Calls Try.prog 7 #[.agg #[.slice A0_0 l0_0.length c0_0, .int .i64 a0_1, .int .i64 a0_2], .int .i64 a1, .int .i64 a2] w fun e w' => e = .returned (.bool r) ∧ Below w.heap.size w w' := by
  have hu24 := Try.underlying24
  have HR0_0 := Aside0.mk hr0_0
  have HC0_0 := Aside0.mk hc0_0
  clear hr0_0 hc0_0
  have HB := Aside0.mk (Below.refl w.heap.size w)
  have H : (if (l0_0.length : Int) > 40 then (mapmakerlaw07_ScheduleMoves.j0 k a1 a2 true l0_0 a0_1 a0_2) else (if a1 < 0 then (mapmakerlaw07_ScheduleMoves.j0 k a1 a2 true l0_0 a0_1 a0_2) else (if a2 < a1 then (mapmakerlaw07_ScheduleMoves.j0 k a1 a2 true l0_0 a0_1 a0_2) else (mapmakerlaw07_ScheduleMoves.j0 k a1 a2 (decide (a2 > 1099511627776)) l0_0 a0_1 a0_2)))) = some r := h
  clear h
  have HC4 := Aside0.mk H
  clear H
  go_enter Try.func7, Try.ntmps7
  go_upto_region 1 with (first | ((with_reducible refine gate_dst (N := 3) rfl ?_); refine box_event ?hg (N := 3) ?hd (cs := #[.slice A0_0 l0_0.length c0_0, .int .i64 a0_1, .int .i64 a0_2]) (t := 24) ?hr ?_; (case hd => rfl); (case hg => rfl); (case hr => first | (go_simp; done) | (go_simp; rfl)); intro gb169 hg w5 hbox hb; have n0_ := Aside0.mk (below_step (by repeat (first | (with_reducible first | exact HB.out | apply below_alloc | apply pw_below_drewN | apply below_drew1) | exact HB.out)) hb); have n1_ := Aside0.mk (hbox); have n2_ := Aside0.mk ((by rw [hg]; exact (below_size (by repeat (first | (with_reducible first | exact HB.out | apply below_alloc | apply pw_below_drewN | apply below_drew1) | exact HB.out))) : w.heap.size ≤ gb169)); have n3_ := Aside0.mk ((by rw [hg]; exact (below_size (by repeat (first | (with_reducible first | exact HB.out | apply below_alloc | apply pw_below_drewN | apply below_drew1) | exact HB.out))) : w.heap.size ≤ gb169)); clear HB; have HB := n0_; have BK169 := n1_; have GW169 := n2_; have GE169 := n3_; clear n0_ n1_ n2_ n3_; clear hb hbox hg))
  (try simp only [Act.put, List.setIfInBounds_toArray, List.set_cons_zero, List.set_cons_succ])
  go_cut [27] (fun v27 wc => ∃ (kq : Nat) (x27_3 : Bool), v27 = .bool x27_3 ∧ Aside0 (mapmakerlaw07_ScheduleMoves.j0 kq a1 a2 x27_3 l0_0 a0_1 a0_2 = some r) ∧ Aside0 (kq ≤ k) ∧ Aside0 (wc.heap[gb169]? = some (.cells #[(.slice A0_0 l0_0.length c0_0), .int .i64 a0_1, .int .i64 a0_2] 24 (0, 0))) ∧ Aside0 (Below w.heap.size w wc))
  case first =>
    have H := HC4.out
    clear HC4
    by_cases c6 : (l0_0.length : Int) > 40
    · rw [if_pos c6] at H
      have c6b0 : decide (40 < (l0_0.length : Int)) = true := decide_eq_true c6
      have c6b1 : decide (40 < l0_0.length) = true := decide_eq_true (by omega)
      clear c6
      (first | rw [c6b0] | (simp only [i64_w, i32_w]; rw [c6b0]) | skip)
      have H' := Aside0.mk H
      clear H
      have hcz7_0 : w5.cell? ⟨gb169, 0, none⟩ = some (.slice A0_0 l0_0.length c0_0) := (blk_cell BK169.out 0).trans rfl
      have hcz7_1 : w5.cell? ⟨gb169, 1, none⟩ = some (.int .i64 a0_1) := (blk_cell BK169.out 1).trans rfl
      have hcz7_2 : w5.cell? ⟨gb169, 2, none⟩ = some (.int .i64 a0_2) := (blk_cell BK169.out 2).trans rfl
      have hfz7_0 := blk_frozen BK169.out 0
      have hfz7_1 := blk_frozen BK169.out 1
      have hfz7_2 := blk_frozen BK169.out 2
      go_wp2
      go_meet
      case rel => exact ⟨_, (true), (by first | rfl | (simp; done) | (simp [*]; done)), H', ⟨by first | omega | exact Nat.le_refl _⟩, ⟨by (with_reducible repeat (first | refine blk_drewN ?_ _ | refine blk_drew ?_ | refine blk_alloc ?_ _)); exact BK169.out⟩, ⟨by repeat (first | (with_reducible first | exact HB.out | apply below_alloc | apply pw_below_drewN | apply below_drew1 | refine below_set ?_ GE169.out) | exact HB.out)⟩⟩
    · rw [if_neg c6] at H
      have c6b0 : decide (40 < (l0_0.length : Int)) = false := decide_eq_false c6
      have c6b1 : decide (40 < l0_0.length) = false := decide_eq_false (by omega)
      clear c6
      (first | rw [c6b0] | (simp only [i64_w, i32_w]; rw [c6b0]) | skip)
      by_cases c8 : a1 < 0
      · rw [if_pos c8] at H
        have c8b0 : decide (a1 < 0) = true := decide_eq_true c8
        clear c8
        have H' := Aside0.mk H
        clear H
        have hcz9_0 : w5.cell? ⟨gb169, 0, none⟩ = some (.slice A0_0 l0_0.length c0_0) := (blk_cell BK169.out 0).trans rfl
        have hcz9_1 : w5.cell? ⟨gb169, 1, none⟩ = some (.int .i64 a0_1) := (blk_cell BK169.out 1).trans rfl
        have hcz9_2 : w5.cell? ⟨gb169, 2, none⟩ = some (.int .i64 a0_2) := (blk_cell BK169.out 2).trans rfl
        have hfz9_0 := blk_frozen BK169.out 0
        have hfz9_1 := blk_frozen BK169.out 1
        have hfz9_2 := blk_frozen BK169.out 2
        go_wp2
        go_meet
        case rel => exact ⟨_, (true), (by first | rfl | (simp; done) | (simp [*]; done)), H', ⟨by first | omega | exact Nat.le_refl _⟩, ⟨by (with_reducible repeat (first | refine blk_drewN ?_ _ | refine blk_drew ?_ | refine blk_alloc ?_ _)); exact BK169.out⟩, ⟨by repeat (first | (with_reducible first | exact HB.out | apply below_alloc | apply pw_below_drewN | apply below_drew1 | refine below_set ?_ GE169.out) | exact HB.out)⟩⟩
      · rw [if_neg c8] at H
        have c8b0 : decide (a1 < 0) = false := decide_eq_false c8
        clear c8
        by_cases c10 : a2 < a1
        · rw [if_pos c10] at H
          have c10b0 : decide (a2 < a1) = true := decide_eq_true c10
          clear c10
          have H' := Aside0.mk H
          clear H
          have hcz11_0 : w5.cell? ⟨gb169, 0, none⟩ = some (.slice A0_0 l0_0.length c0_0) := (blk_cell BK169.out 0).trans rfl
          have hcz11_1 : w5.cell? ⟨gb169, 1, none⟩ = some (.int .i64 a0_1) := (blk_cell BK169.out 1).trans rfl
          have hcz11_2 : w5.cell? ⟨gb169, 2, none⟩ = some (.int .i64 a0_2) := (blk_cell BK169.out 2).trans rfl
          have hfz11_0 := blk_frozen BK169.out 0
          have hfz11_1 := blk_frozen BK169.out 1
          have hfz11_2 := blk_frozen BK169.out 2
          go_wp2
          go_meet
          case rel => exact ⟨_, (true), (by first | rfl | (simp; done) | (simp [*]; done)), H', ⟨by first | omega | exact Nat.le_refl _⟩, ⟨by (with_reducible repeat (first | refine blk_drewN ?_ _ | refine blk_drew ?_ | refine blk_alloc ?_ _)); exact BK169.out⟩, ⟨by repeat (first | (with_reducible first | exact HB.out | apply below_alloc | apply pw_below_drewN | apply below_drew1 | refine below_set ?_ GE169.out) | exact HB.out)⟩⟩
        · rw [if_neg c10] at H
          have c10b0 : decide (a2 < a1) = false := decide_eq_false c10
          clear c10
          have H' := Aside0.mk H
          clear H
          have hcz12_0 : w5.cell? ⟨gb169, 0, none⟩ = some (.slice A0_0 l0_0.length c0_0) := (blk_cell BK169.out 0).trans rfl
          have hcz12_1 : w5.cell? ⟨gb169, 1, none⟩ = some (.int .i64 a0_1) := (blk_cell BK169.out 1).trans rfl
          have hcz12_2 : w5.cell? ⟨gb169, 2, none⟩ = some (.int .i64 a0_2) := (blk_cell BK169.out 2).trans rfl
          have hfz12_0 := blk_frozen BK169.out 0
          have hfz12_1 := blk_frozen BK169.out 1
          have hfz12_2 := blk_frozen BK169.out 2
          go_wp2
          go_meet
          case rel => exact ⟨_, (decide (a2 > 1099511627776)), (by first | rfl | (simp; done) | (simp [*]; done)), H', ⟨by first | omega | exact Nat.le_refl _⟩, ⟨by (with_reducible repeat (first | refine blk_drewN ?_ _ | refine blk_drew ?_ | refine blk_alloc ?_ _)); exact BK169.out⟩, ⟨by repeat (first | (with_reducible first | exact HB.out | apply below_alloc | apply pw_below_drewN | apply below_drew1 | refine below_set ?_ GE169.out) | exact HB.out)⟩⟩
  case rest =>
    clear HC4
    try clear c1
    try clear p2
    try clear c6
    try clear c6b0
    try clear c6b1
    try clear c7
    try clear c8
    try clear c8b0
    try clear c10
    try clear c10b0
    try clear hcz11_0
    try clear hcz11_1
    try clear hcz11_2
    try clear hcz12_0
    try clear hcz12_1
    try clear hcz12_2
    try clear hcz7_0
    try clear hcz7_1
    try clear hcz7_2
    try clear hcz9_0
    try clear hcz9_1
    try clear hcz9_2
    try clear hfz11_0
    try clear hfz11_1
    try clear hfz11_2
    try clear hfz12_0
    try clear hfz12_1
    try clear hfz12_2
    try clear hfz7_0
    try clear hfz7_1
    try clear hfz7_2
    try clear hfz9_0
    try clear hfz9_1
    try clear hfz9_2
    obtain ⟨kq, x27_3, rfl, HA, HJ3, BK169, HB⟩ := hcut
    cases kq with
    | zero => exact absurd HA.out (by simp [mapmakerlaw07_ScheduleMoves.j0])
    | succ kj3 =>
      have H := HA.out
      clear HA
      simp only [mapmakerlaw07_ScheduleMoves.j0] at H
      by_cases c13 : x27_3 = true
      · subst c13
        have H1 : ((mapmakerlaw07_lives.f kj3).bind fun t170 => (some t170)) = some r := by rw [if_pos rfl] at H; exact H
        clear H
        have H := H1
        clear H1
        replace H := Option.bind_eq_some_iff.mp H
        obtain ⟨t170, A140, H⟩ := H
        replace H : (some t170) = some r := H
        have A14 := Aside0.mk A140
        clear A140
        obtain rfl := Option.some.inj H
        go_wp2_with (first | ((with_reducible refine gate_callee (f := 9) rfl ?_); refine goesL_ (some 28) rfl rfl Try.func9 (by kernel_rfl) rfl #[] rfl (by (try simp only [List.map_toArray, List.map_cons, List.map_nil]); first | done | rfl | (simp only [List.length_drop, List.length_take]; rfl)) ?_; (with_reducible refine (mapmakerlaw07_lives.calls kj3  t170 _ A14.out).mono ?_); rintro e w15 ⟨rfl, hb⟩; refine ⟨_, rfl, ?_⟩; have n0_ := Aside0.mk (blk_below (g := gb169) (o := .cells #[.slice A0_0 l0_0.length c0_0, .int .i64 a0_1, .int .i64 a0_2] 24 (0, 0)) (by (with_reducible repeat (first | refine blk_drewN ?_ _ | refine blk_drew ?_ | refine blk_alloc ?_ _)); exact BK169.out) hb); have n1_ := Aside0.mk (below_step (by repeat (first | (with_reducible first | exact HB.out | apply below_alloc | apply pw_below_drewN | apply below_drew1 | refine below_set ?_ GE169.out) | exact HB.out)) hb); clear BK169; clear HB; have BK169 := n0_; have HB := n1_; clear n0_ n1_; (try clear hb); (try clear hb2); (try clear hk); (try clear hi)))
        go_ret
        exact ⟨by first | rfl | (simp [errW_none, errW_some] <;> rfl) | (simp [*, errW_none, errW_some] <;> rfl), by repeat (first | (with_reducible first | exact HB.out | apply below_alloc | apply pw_below_drewN | apply below_drew1 | refine below_set ?_ GE169.out) | exact HB.out)⟩
      · replace c13 := Bool.eq_false_iff.mpr c13
        subst c13
        have H1 : ((schedule_Next.f kj3 l0_0 a0_1 a0_2 a1).bind fun bt171 => ((schedule_Next.f kj3 l0_0 a0_1 a0_2 a2).bind fun bt173 => ((schedule_Check.f kj3 l0_0 a0_1 a0_2).bind fun t175 => (if t175 = 0 then (if (bt171.2 != bt173.2) = true then (none) else (if bt171.2 = true then (if bt171.1 ≥ a1 then (if bt171.1 < (wrap64 (a1 + 1440)) then (if bt173.1 ≥ a2 then (if bt173.1 < (wrap64 (a2 + 1440)) then (if bt171.1 ≤ bt173.1 then ((schedule_Open.f kj3 l0_0 a0_1 a0_2 bt171.1).bind fun t182 => (if t182 = true then ((schedule_Open.f kj3 l0_0 a0_1 a0_2 bt173.1).bind fun t183 => (if t183 = true then ((schedule_Open.f kj3 l0_0 a0_1 a0_2 a1).bind fun t184 => (if (t184 == (bt171.1 == a1)) = true then (if ((bt173.1 == bt171.1) == (decide (bt171.1 ≥ a2))) = true then ((mapmakerlaw07_lives.f kj3).bind fun t185 => (some t185)) else (none)) else (none))) else (none))) else (none))) else (none)) else (none)) else (none)) else (none)) else (none)) else (if bt171.1 = 0 then (if bt173.1 = 0 then ((schedule_Open.f kj3 l0_0 a0_1 a0_2 a1).bind fun t179 => (if t179 = true then (none) else ((schedule_Open.f kj3 l0_0 a0_1 a0_2 a2).bind fun t180 => (if t180 = true then (none) else ((mapmakerlaw07_lives.f kj3).bind fun t181 => (some t181)))))) else (none)) else (none)))) else (if bt171.2 = true then (none) else (if bt173.2 = true then (none) else (if bt171.1 = 0 then (if bt173.1 = 0 then ((schedule_Open.f kj3 l0_0 a0_1 a0_2 a1).bind fun t176 => (if t176 = true then (none) else ((schedule_Free.f kj3 l0_0 a0_1 a0_2).bind fun t177 => (if t177 = true then (none) else ((mapmakerlaw07_lives.f kj3).bind fun t178 => (some t178)))))) else (none)) else (none)))))))) = some r := by rw [if_neg (show ¬ (false = true) by decide)] at H; exact H
        clear H
        have H := H1
        clear H1
        replace H := Option.bind_eq_some_iff.mp H
        obtain ⟨⟨t171, t172⟩, A160, H⟩ := H
        replace H : ((schedule_Next.f kj3 l0_0 a0_1 a0_2 a2).bind fun bt173 => ((schedule_Check.f kj3 l0_0 a0_1 a0_2).bind fun t175 => (if t175 = 0 then (if (t172 != bt173.2) = true then (none) else (if t172 = true then (if t171 ≥ a1 then (if t171 < (wrap64 (a1 + 1440)) then (if bt173.1 ≥ a2 then (if bt173.1 < (wrap64 (a2 + 1440)) then (if t171 ≤ bt173.1 then ((schedule_Open.f kj3 l0_0 a0_1 a0_2 t171).bind fun t182 => (if t182 = true then ((schedule_Open.f kj3 l0_0 a0_1 a0_2 bt173.1).bind fun t183 => (if t183 = true then ((schedule_Open.f kj3 l0_0 a0_1 a0_2 a1).bind fun t184 => (if (t184 == (t171 == a1)) = true then (if ((bt173.1 == t171) == (decide (t171 ≥ a2))) = true then ((mapmakerlaw07_lives.f kj3).bind fun t185 => (some t185)) else (none)) else (none))) else (none))) else (none))) else (none)) else (none)) else (none)) else (none)) else (none)) else (if t171 = 0 then (if bt173.1 = 0 then ((schedule_Open.f kj3 l0_0 a0_1 a0_2 a1).bind fun t179 => (if t179 = true then (none) else ((schedule_Open.f kj3 l0_0 a0_1 a0_2 a2).bind fun t180 => (if t180 = true then (none) else ((mapmakerlaw07_lives.f kj3).bind fun t181 => (some t181)))))) else (none)) else (none)))) else (if t172 = true then (none) else (if bt173.2 = true then (none) else (if t171 = 0 then (if bt173.1 = 0 then ((schedule_Open.f kj3 l0_0 a0_1 a0_2 a1).bind fun t176 => (if t176 = true then (none) else ((schedule_Free.f kj3 l0_0 a0_1 a0_2).bind fun t177 => (if t177 = true then (none) else ((mapmakerlaw07_lives.f kj3).bind fun t178 => (some t178)))))) else (none)) else (none))))))) = some r := H
        have A16 := Aside0.mk A160
        clear A160
        replace H := Option.bind_eq_some_iff.mp H
        obtain ⟨⟨t173, t174⟩, A170, H⟩ := H
        replace H : ((schedule_Check.f kj3 l0_0 a0_1 a0_2).bind fun t175 => (if t175 = 0 then (if (t172 != t174) = true then (none) else (if t172 = true then (if t171 ≥ a1 then (if t171 < (wrap64 (a1 + 1440)) then (if t173 ≥ a2 then (if t173 < (wrap64 (a2 + 1440)) then (if t171 ≤ t173 then ((schedule_Open.f kj3 l0_0 a0_1 a0_2 t171).bind fun t182 => (if t182 = true then ((schedule_Open.f kj3 l0_0 a0_1 a0_2 t173).bind fun t183 => (if t183 = true then ((schedule_Open.f kj3 l0_0 a0_1 a0_2 a1).bind fun t184 => (if (t184 == (t171 == a1)) = true then (if ((t173 == t171) == (decide (t171 ≥ a2))) = true then ((mapmakerlaw07_lives.f kj3).bind fun t185 => (some t185)) else (none)) else (none))) else (none))) else (none))) else (none)) else (none)) else (none)) else (none)) else (none)) else (if t171 = 0 then (if t173 = 0 then ((schedule_Open.f kj3 l0_0 a0_1 a0_2 a1).bind fun t179 => (if t179 = true then (none) else ((schedule_Open.f kj3 l0_0 a0_1 a0_2 a2).bind fun t180 => (if t180 = true then (none) else ((mapmakerlaw07_lives.f kj3).bind fun t181 => (some t181)))))) else (none)) else (none)))) else (if t172 = true then (none) else (if t174 = true then (none) else (if t171 = 0 then (if t173 = 0 then ((schedule_Open.f kj3 l0_0 a0_1 a0_2 a1).bind fun t176 => (if t176 = true then (none) else ((schedule_Free.f kj3 l0_0 a0_1 a0_2).bind fun t177 => (if t177 = true then (none) else ((mapmakerlaw07_lives.f kj3).bind fun t178 => (some t178)))))) else (none)) else (none)))))) = some r := H
        have A17 := Aside0.mk A170
        clear A170
        replace H := Option.bind_eq_some_iff.mp H
        obtain ⟨t175, A180, H⟩ := H
        replace H : (if t175 = 0 then (if (t172 != t174) = true then (none) else (if t172 = true then (if t171 ≥ a1 then (if t171 < (wrap64 (a1 + 1440)) then (if t173 ≥ a2 then (if t173 < (wrap64 (a2 + 1440)) then (if t171 ≤ t173 then ((schedule_Open.f kj3 l0_0 a0_1 a0_2 t171).bind fun t182 => (if t182 = true then ((schedule_Open.f kj3 l0_0 a0_1 a0_2 t173).bind fun t183 => (if t183 = true then ((schedule_Open.f kj3 l0_0 a0_1 a0_2 a1).bind fun t184 => (if (t184 == (t171 == a1)) = true then (if ((t173 == t171) == (decide (t171 ≥ a2))) = true then ((mapmakerlaw07_lives.f kj3).bind fun t185 => (some t185)) else (none)) else (none))) else (none))) else (none))) else (none)) else (none)) else (none)) else (none)) else (none)) else (if t171 = 0 then (if t173 = 0 then ((schedule_Open.f kj3 l0_0 a0_1 a0_2 a1).bind fun t179 => (if t179 = true then (none) else ((schedule_Open.f kj3 l0_0 a0_1 a0_2 a2).bind fun t180 => (if t180 = true then (none) else ((mapmakerlaw07_lives.f kj3).bind fun t181 => (some t181)))))) else (none)) else (none)))) else (if t172 = true then (none) else (if t174 = true then (none) else (if t171 = 0 then (if t173 = 0 then ((schedule_Open.f kj3 l0_0 a0_1 a0_2 a1).bind fun t176 => (if t176 = true then (none) else ((schedule_Free.f kj3 l0_0 a0_1 a0_2).bind fun t177 => (if t177 = true then (none) else ((mapmakerlaw07_lives.f kj3).bind fun t178 => (some t178)))))) else (none)) else (none))))) = some r := H
        have A18 := Aside0.mk A180
        clear A180
        by_cases c19 : t175 = 0
        · rw [if_pos c19] at H
          have c19b0 : (t175 == 0) = true := beq_iff_eq.mpr c19
          have c19b1 : (t175 != 0) = false := bne_eq_false_iff_eq.mpr c19
          clear c19
          by_cases c20 : (t172 != t174) = true
          · rw [if_pos c20] at H
            exact absurd H (by simp)
          · rw [if_neg c20] at H
            have c20b0 : (t172 != t174) = false := by simpa using c20
            (try (have c20b1 : decide (t172 = t174) = true := by simpa using c20))
            (try (have c20b2 : (t172 == t174) = true := by simpa using c20))
            clear c20
            by_cases c21 : t172 = true
            · subst c21
              have H1 : (if t171 ≥ a1 then (if t171 < (wrap64 (a1 + 1440)) then (if t173 ≥ a2 then (if t173 < (wrap64 (a2 + 1440)) then (if t171 ≤ t173 then ((schedule_Open.f kj3 l0_0 a0_1 a0_2 t171).bind fun t182 => (if t182 = true then ((schedule_Open.f kj3 l0_0 a0_1 a0_2 t173).bind fun t183 => (if t183 = true then ((schedule_Open.f kj3 l0_0 a0_1 a0_2 a1).bind fun t184 => (if (t184 == (t171 == a1)) = true then (if ((t173 == t171) == (decide (t171 ≥ a2))) = true then ((mapmakerlaw07_lives.f kj3).bind fun t185 => (some t185)) else (none)) else (none))) else (none))) else (none))) else (none)) else (none)) else (none)) else (none)) else (none)) = some r := by rw [if_pos rfl] at H; exact H
              clear H
              have H := H1
              clear H1
              by_cases c22 : t171 ≥ a1
              · rw [if_pos c22] at H
                have c22b0 : decide (a1 ≤ t171) = true := decide_eq_true c22
                clear c22
                by_cases c23 : t171 < (wrap64 (a1 + 1440))
                · rw [if_pos c23] at H
                  have c23b0 : decide (t171 < (wrap64 (a1 + 1440))) = true := decide_eq_true c23
                  clear c23
                  by_cases c24 : t173 ≥ a2
                  · rw [if_pos c24] at H
                    have c24b0 : decide (a2 ≤ t173) = true := decide_eq_true c24
                    clear c24
                    by_cases c25 : t173 < (wrap64 (a2 + 1440))
                    · rw [if_pos c25] at H
                      have c25b0 : decide (t173 < (wrap64 (a2 + 1440))) = true := decide_eq_true c25
                      clear c25
                      by_cases c26 : t171 ≤ t173
                      · rw [if_pos c26] at H
                        have c26b0 : decide (t171 ≤ t173) = true := decide_eq_true c26
                        clear c26
                        replace H := Option.bind_eq_some_iff.mp H
                        obtain ⟨t182, A270, H⟩ := H
                        replace H : (if t182 = true then ((schedule_Open.f kj3 l0_0 a0_1 a0_2 t173).bind fun t183 => (if t183 = true then ((schedule_Open.f kj3 l0_0 a0_1 a0_2 a1).bind fun t184 => (if (t184 == (t171 == a1)) = true then (if ((t173 == t171) == (decide (t171 ≥ a2))) = true then ((mapmakerlaw07_lives.f kj3).bind fun t185 => (some t185)) else (none)) else (none))) else (none))) else (none)) = some r := H
                        have A27 := Aside0.mk A270
                        clear A270
                        by_cases c28 : t182 = true
                        · subst c28
                          have H1 : ((schedule_Open.f kj3 l0_0 a0_1 a0_2 t173).bind fun t183 => (if t183 = true then ((schedule_Open.f kj3 l0_0 a0_1 a0_2 a1).bind fun t184 => (if (t184 == (t171 == a1)) = true then (if ((t173 == t171) == (decide (t171 ≥ a2))) = true then ((mapmakerlaw07_lives.f kj3).bind fun t185 => (some t185)) else (none)) else (none))) else (none))) = some r := by rw [if_pos rfl] at H; exact H
                          clear H
                          have H := H1
                          clear H1
                          replace H := Option.bind_eq_some_iff.mp H
                          obtain ⟨t183, A290, H⟩ := H
                          replace H : (if t183 = true then ((schedule_Open.f kj3 l0_0 a0_1 a0_2 a1).bind fun t184 => (if (t184 == (t171 == a1)) = true then (if ((t173 == t171) == (decide (t171 ≥ a2))) = true then ((mapmakerlaw07_lives.f kj3).bind fun t185 => (some t185)) else (none)) else (none))) else (none)) = some r := H
                          have A29 := Aside0.mk A290
                          clear A290
                          by_cases c30 : t183 = true
                          · subst c30
                            have H1 : ((schedule_Open.f kj3 l0_0 a0_1 a0_2 a1).bind fun t184 => (if (t184 == (t171 == a1)) = true then (if ((t173 == t171) == (decide (t171 ≥ a2))) = true then ((mapmakerlaw07_lives.f kj3).bind fun t185 => (some t185)) else (none)) else (none))) = some r := by rw [if_pos rfl] at H; exact H
                            clear H
                            have H := H1
                            clear H1
                            replace H := Option.bind_eq_some_iff.mp H
                            obtain ⟨t184, A310, H⟩ := H
                            replace H : (if (t184 == (t171 == a1)) = true then (if ((t173 == t171) == (decide (t171 ≥ a2))) = true then ((mapmakerlaw07_lives.f kj3).bind fun t185 => (some t185)) else (none)) else (none)) = some r := H
                            have A31 := Aside0.mk A310
                            clear A310
                            by_cases c32 : (t184 == (t171 == a1)) = true
                            · rw [if_pos c32] at H
                              have c32b0 : (t184 == (t171 == a1)) = true := c32
                              (try (have c32b1 : decide (t184 = (t171 == a1)) = true := by simpa using c32))
                              (try (have c32b2 : (t184 == (t171 == a1)) = true := by simpa using c32))
                              clear c32
                              by_cases c33 : ((t173 == t171) == (decide (t171 ≥ a2))) = true
                              · rw [if_pos c33] at H
                                have c33b0 : ((t173 == t171) == (decide (t171 ≥ a2))) = true := c33
                                (try (have c33b1 : decide ((t173 == t171) = (decide (t171 ≥ a2))) = true := by simpa using c33))
                                (try (have c33b2 : ((t173 == t171) == (decide (t171 ≥ a2))) = true := by simpa using c33))
                                clear c33
                                replace H := Option.bind_eq_some_iff.mp H
                                obtain ⟨t185, A340, H⟩ := H
                                replace H : (some t185) = some r := H
                                have A34 := Aside0.mk A340
                                clear A340
                                obtain rfl := Option.some.inj H
                                have hcz35_0 : wc.cell? ⟨gb169, 0, none⟩ = some (.slice A0_0 l0_0.length c0_0) := (blk_cell BK169.out 0).trans rfl
                                have hcz35_1 : wc.cell? ⟨gb169, 1, none⟩ = some (.int .i64 a0_1) := (blk_cell BK169.out 1).trans rfl
                                have hcz35_2 : wc.cell? ⟨gb169, 2, none⟩ = some (.int .i64 a0_2) := (blk_cell BK169.out 2).trans rfl
                                have hfz35_0 := blk_frozen BK169.out 0
                                have hfz35_1 := blk_frozen BK169.out 1
                                have hfz35_2 := blk_frozen BK169.out 2
                                go_wp2_with (first | ((with_reducible refine gate_callee (f := 14) rfl ?_); refine goesL_ (some 32) rfl rfl Try.func14 (by kernel_rfl) rfl #[.agg #[.slice A0_0 l0_0.length c0_0, .int .i64 a0_1, .int .i64 a0_2], .int .i64 a1] rfl (by (try simp only [List.map_toArray, List.map_cons, List.map_nil]); first | done | rfl | (simp only [List.length_drop, List.length_take]; rfl)) ?_; (with_reducible refine (schedule_Next.calls kj3 _ _ l0_0 a0_1 a0_2 a1 t171 true _ ?side1 ?side2 A16.out).mono ?_); (case side1 => repeat (first | exact (Kd.C_below HR0_0.out HB.out) | (with_reducible refine Kd.C_alloc ?_ _) | (with_reducible refine Kd.C_drewN ?_ _) | (with_reducible refine Kd.C_drew ?_))); (case side2 => exact HC0_0.out); rintro e w36 ⟨rfl, hb⟩; refine ⟨_, rfl, ?_⟩; have n0_ := Aside0.mk (blk_below (g := gb169) (o := .cells #[.slice A0_0 l0_0.length c0_0, .int .i64 a0_1, .int .i64 a0_2] 24 (0, 0)) (by (with_reducible repeat (first | refine blk_drewN ?_ _ | refine blk_drew ?_ | refine blk_alloc ?_ _)); exact BK169.out) hb); have n1_ := Aside0.mk (below_step (by repeat (first | (with_reducible first | exact HB.out | apply below_alloc | apply pw_below_drewN | apply below_drew1 | refine below_set ?_ GE169.out) | exact HB.out)) hb); clear BK169; clear HB; have BK169 := n0_; have HB := n1_; clear n0_ n1_; (try clear hb); (try clear hb2); (try clear hk); (try clear hi); have hcz37_0 : w36.cell? ⟨gb169, 0, none⟩ = some (.slice A0_0 l0_0.length c0_0) := (blk_cell BK169.out 0).trans rfl; have hcz37_1 : w36.cell? ⟨gb169, 1, none⟩ = some (.int .i64 a0_1) := (blk_cell BK169.out 1).trans rfl; have hcz37_2 : w36.cell? ⟨gb169, 2, none⟩ = some (.int .i64 a0_2) := (blk_cell BK169.out 2).trans rfl; have hfz37_0 := blk_frozen BK169.out 0; have hfz37_1 := blk_frozen BK169.out 1; have hfz37_2 := blk_frozen BK169.out 2) | ((with_reducible refine gate_callee (f := 14) rfl ?_); refine goesL_ (some 38) rfl rfl Try.func14 (by kernel_rfl) rfl #[.agg #[.slice A0_0 l0_0.length c0_0, .int .i64 a0_1, .int .i64 a0_2], .int .i64 a2] rfl (by (try simp only [List.map_toArray, List.map_cons, List.map_nil]); first | done | rfl | (simp only [List.length_drop, List.length_take]; rfl)) ?_; (with_reducible refine (schedule_Next.calls kj3 _ _ l0_0 a0_1 a0_2 a2 t173 t174 _ ?side1 ?side2 A17.out).mono ?_); (case side1 => repeat (first | exact (Kd.C_below HR0_0.out HB.out) | (with_reducible refine Kd.C_alloc ?_ _) | (with_reducible refine Kd.C_drewN ?_ _) | (with_reducible refine Kd.C_drew ?_))); (case side2 => exact HC0_0.out); rintro e w38 ⟨rfl, hb⟩; refine ⟨_, rfl, ?_⟩; have n0_ := Aside0.mk (blk_below (g := gb169) (o := .cells #[.slice A0_0 l0_0.length c0_0, .int .i64 a0_1, .int .i64 a0_2] 24 (0, 0)) (by (with_reducible repeat (first | refine blk_drewN ?_ _ | refine blk_drew ?_ | refine blk_alloc ?_ _)); exact BK169.out) hb); have n1_ := Aside0.mk (below_step (by repeat (first | (with_reducible first | exact HB.out | apply below_alloc | apply pw_below_drewN | apply below_drew1 | refine below_set ?_ GE169.out) | exact HB.out)) hb); clear BK169; clear HB; have BK169 := n0_; have HB := n1_; clear n0_ n1_; (try clear hb); (try clear hb2); (try clear hk); (try clear hi); have hcz39_0 : w38.cell? ⟨gb169, 0, none⟩ = some (.slice A0_0 l0_0.length c0_0) := (blk_cell BK169.out 0).trans rfl; have hcz39_1 : w38.cell? ⟨gb169, 1, none⟩ = some (.int .i64 a0_1) := (blk_cell BK169.out 1).trans rfl; have hcz39_2 : w38.cell? ⟨gb169, 2, none⟩ = some (.int .i64 a0_2) := (blk_cell BK169.out 2).trans rfl; have hfz39_0 := blk_frozen BK169.out 0; have hfz39_1 := blk_frozen BK169.out 1; have hfz39_2 := blk_frozen BK169.out 2) | ((with_reducible refine gate_callee (f := 10) rfl ?_); refine goesL_ (some 42) rfl rfl Try.func10 (by kernel_rfl) rfl #[.agg #[.slice A0_0 l0_0.length c0_0, .int .i64 a0_1, .int .i64 a0_2]] rfl (by (try simp only [List.map_toArray, List.map_cons, List.map_nil]); first | done | rfl | (simp only [List.length_drop, List.length_take]; rfl)) ?_; (with_reducible refine (schedule_Check.calls kj3 _ _ l0_0 a0_1 a0_2 t175 _ ?side1 ?side2 A18.out).mono ?_); (case side1 => repeat (first | exact (Kd.C_below HR0_0.out HB.out) | (with_reducible refine Kd.C_alloc ?_ _) | (with_reducible refine Kd.C_drewN ?_ _) | (with_reducible refine Kd.C_drew ?_))); (case side2 => exact HC0_0.out); rintro e w40 ⟨rfl, hb⟩; refine ⟨_, rfl, ?_⟩; have n0_ := Aside0.mk (blk_below (g := gb169) (o := .cells #[.slice A0_0 l0_0.length c0_0, .int .i64 a0_1, .int .i64 a0_2] 24 (0, 0)) (by (with_reducible repeat (first | refine blk_drewN ?_ _ | refine blk_drew ?_ | refine blk_alloc ?_ _)); exact BK169.out) hb); have n1_ := Aside0.mk (below_step (by repeat (first | (with_reducible first | exact HB.out | apply below_alloc | apply pw_below_drewN | apply below_drew1 | refine below_set ?_ GE169.out) | exact HB.out)) hb); clear BK169; clear HB; have BK169 := n0_; have HB := n1_; clear n0_ n1_; (try clear hb); (try clear hb2); (try clear hk); (try clear hi); have hcz41_0 : w40.cell? ⟨gb169, 0, none⟩ = some (.slice A0_0 l0_0.length c0_0) := (blk_cell BK169.out 0).trans rfl; have hcz41_1 : w40.cell? ⟨gb169, 1, none⟩ = some (.int .i64 a0_1) := (blk_cell BK169.out 1).trans rfl; have hcz41_2 : w40.cell? ⟨gb169, 2, none⟩ = some (.int .i64 a0_2) := (blk_cell BK169.out 2).trans rfl; have hfz41_0 := blk_frozen BK169.out 0; have hfz41_1 := blk_frozen BK169.out 1; have hfz41_2 := blk_frozen BK169.out 2) | (go_at_call 12; (with_reducible refine (schedule_Open.calls kj3 _ _ l0_0 a0_1 a0_2 t171 true _ ?side1 ?side2 A27.out).mono ?_); (case side1 => repeat (first | exact (Kd.C_below HR0_0.out HB.out) | (with_reducible refine Kd.C_alloc ?_ _) | (with_reducible refine Kd.C_drewN ?_ _) | (with_reducible refine Kd.C_drew ?_))); (case side2 => exact HC0_0.out); rintro e w42 ⟨rfl, hb⟩; have n0_ := Aside0.mk (blk_below (g := gb169) (o := .cells #[.slice A0_0 l0_0.length c0_0, .int .i64 a0_1, .int .i64 a0_2] 24 (0, 0)) (by (with_reducible repeat (first | refine blk_drewN ?_ _ | refine blk_drew ?_ | refine blk_alloc ?_ _)); exact BK169.out) hb); have n1_ := Aside0.mk (below_step (by repeat (first | (with_reducible first | exact HB.out | apply below_alloc | apply pw_below_drewN | apply below_drew1 | refine below_set ?_ GE169.out) | exact HB.out)) hb); clear BK169; clear HB; have BK169 := n0_; have HB := n1_; clear n0_ n1_; (try clear hb); (try clear hb2); (try clear hk); (try clear hi); have hcz43_0 : w42.cell? ⟨gb169, 0, none⟩ = some (.slice A0_0 l0_0.length c0_0) := (blk_cell BK169.out 0).trans rfl; have hcz43_1 : w42.cell? ⟨gb169, 1, none⟩ = some (.int .i64 a0_1) := (blk_cell BK169.out 1).trans rfl; have hcz43_2 : w42.cell? ⟨gb169, 2, none⟩ = some (.int .i64 a0_2) := (blk_cell BK169.out 2).trans rfl; have hfz43_0 := blk_frozen BK169.out 0; have hfz43_1 := blk_frozen BK169.out 1; have hfz43_2 := blk_frozen BK169.out 2) | (go_at_call 12; (with_reducible refine (schedule_Open.calls kj3 _ _ l0_0 a0_1 a0_2 t173 true _ ?side1 ?side2 A29.out).mono ?_); (case side1 => repeat (first | exact (Kd.C_below HR0_0.out HB.out) | (with_reducible refine Kd.C_alloc ?_ _) | (with_reducible refine Kd.C_drewN ?_ _) | (with_reducible refine Kd.C_drew ?_))); (case side2 => exact HC0_0.out); rintro e w44 ⟨rfl, hb⟩; have n0_ := Aside0.mk (blk_below (g := gb169) (o := .cells #[.slice A0_0 l0_0.length c0_0, .int .i64 a0_1, .int .i64 a0_2] 24 (0, 0)) (by (with_reducible repeat (first | refine blk_drewN ?_ _ | refine blk_drew ?_ | refine blk_alloc ?_ _)); exact BK169.out) hb); have n1_ := Aside0.mk (below_step (by repeat (first | (with_reducible first | exact HB.out | apply below_alloc | apply pw_below_drewN | apply below_drew1 | refine below_set ?_ GE169.out) | exact HB.out)) hb); clear BK169; clear HB; have BK169 := n0_; have HB := n1_; clear n0_ n1_; (try clear hb); (try clear hb2); (try clear hk); (try clear hi); have hcz45_0 : w44.cell? ⟨gb169, 0, none⟩ = some (.slice A0_0 l0_0.length c0_0) := (blk_cell BK169.out 0).trans rfl; have hcz45_1 : w44.cell? ⟨gb169, 1, none⟩ = some (.int .i64 a0_1) := (blk_cell BK169.out 1).trans rfl; have hcz45_2 : w44.cell? ⟨gb169, 2, none⟩ = some (.int .i64 a0_2) := (blk_cell BK169.out 2).trans rfl; have hfz45_0 := blk_frozen BK169.out 0; have hfz45_1 := blk_frozen BK169.out 1; have hfz45_2 := blk_frozen BK169.out 2) | (go_at_call 12; (with_reducible refine (schedule_Open.calls kj3 _ _ l0_0 a0_1 a0_2 a1 t184 _ ?side1 ?side2 A31.out).mono ?_); (case side1 => repeat (first | exact (Kd.C_below HR0_0.out HB.out) | (with_reducible refine Kd.C_alloc ?_ _) | (with_reducible refine Kd.C_drewN ?_ _) | (with_reducible refine Kd.C_drew ?_))); (case side2 => exact HC0_0.out); rintro e w46 ⟨rfl, hb⟩; have n0_ := Aside0.mk (blk_below (g := gb169) (o := .cells #[.slice A0_0 l0_0.length c0_0, .int .i64 a0_1, .int .i64 a0_2] 24 (0, 0)) (by (with_reducible repeat (first | refine blk_drewN ?_ _ | refine blk_drew ?_ | refine blk_alloc ?_ _)); exact BK169.out) hb); have n1_ := Aside0.mk (below_step (by repeat (first | (with_reducible first | exact HB.out | apply below_alloc | apply pw_below_drewN | apply below_drew1 | refine below_set ?_ GE169.out) | exact HB.out)) hb); clear BK169; clear HB; have BK169 := n0_; have HB := n1_; clear n0_ n1_; (try clear hb); (try clear hb2); (try clear hk); (try clear hi)) | (go_at_call 9; (with_reducible refine (mapmakerlaw07_lives.calls kj3  t185 _ A34.out).mono ?_); rintro e w47 ⟨rfl, hb⟩; have n0_ := Aside0.mk (blk_below (g := gb169) (o := .cells #[.slice A0_0 l0_0.length c0_0, .int .i64 a0_1, .int .i64 a0_2] 24 (0, 0)) (by (with_reducible repeat (first | refine blk_drewN ?_ _ | refine blk_drew ?_ | refine blk_alloc ?_ _)); exact BK169.out) hb); have n1_ := Aside0.mk (below_step (by repeat (first | (with_reducible first | exact HB.out | apply below_alloc | apply pw_below_drewN | apply below_drew1 | refine below_set ?_ GE169.out) | exact HB.out)) hb); clear BK169; clear HB; have BK169 := n0_; have HB := n1_; clear n0_ n1_; (try clear hb); (try clear hb2); (try clear hk); (try clear hi)))
                                go_ret
                                exact ⟨by first | rfl | (simp [errW_none, errW_some] <;> rfl) | (simp [*, errW_none, errW_some] <;> rfl), by repeat (first | (with_reducible first | exact HB.out | apply below_alloc | apply pw_below_drewN | apply below_drew1 | refine below_set ?_ GE169.out) | exact HB.out)⟩
                              · rw [if_neg c33] at H
                                exact absurd H (by simp)
                            · rw [if_neg c32] at H
                              exact absurd H (by simp)
                          · replace c30 := Bool.eq_false_iff.mpr c30
                            subst c30
                            have H1 : (none) = some r := by rw [if_neg (show ¬ (false = true) by decide)] at H; exact H
                            clear H
                            have H := H1
                            clear H1
                            exact absurd H (by simp)
                        · replace c28 := Bool.eq_false_iff.mpr c28
                          subst c28
                          have H1 : (none) = some r := by rw [if_neg (show ¬ (false = true) by decide)] at H; exact H
                          clear H
                          have H := H1
                          clear H1
                          exact absurd H (by simp)
                      · rw [if_neg c26] at H
                        exact absurd H (by simp)
                    · rw [if_neg c25] at H
                      exact absurd H (by simp)
                  · rw [if_neg c24] at H
                    exact absurd H (by simp)
                · rw [if_neg c23] at H
                  exact absurd H (by simp)
              · rw [if_neg c22] at H
                exact absurd H (by simp)
            · replace c21 := Bool.eq_false_iff.mpr c21
              subst c21
              have H1 : (if t171 = 0 then (if t173 = 0 then ((schedule_Open.f kj3 l0_0 a0_1 a0_2 a1).bind fun t179 => (if t179 = true then (none) else ((schedule_Open.f kj3 l0_0 a0_1 a0_2 a2).bind fun t180 => (if t180 = true then (none) else ((mapmakerlaw07_lives.f kj3).bind fun t181 => (some t181)))))) else (none)) else (none)) = some r := by rw [if_neg (show ¬ (false = true) by decide)] at H; exact H
              clear H
              have H := H1
              clear H1
              by_cases c48 : t171 = 0
              · rw [if_pos c48] at H
                have c48b0 : (t171 == 0) = true := beq_iff_eq.mpr c48
                have c48b1 : (t171 != 0) = false := bne_eq_false_iff_eq.mpr c48
                clear c48
                by_cases c49 : t173 = 0
                · rw [if_pos c49] at H
                  have c49b0 : (t173 == 0) = true := beq_iff_eq.mpr c49
                  have c49b1 : (t173 != 0) = false := bne_eq_false_iff_eq.mpr c49
                  clear c49
                  replace H := Option.bind_eq_some_iff.mp H
                  obtain ⟨t179, A500, H⟩ := H
                  replace H : (if t179 = true then (none) else ((schedule_Open.f kj3 l0_0 a0_1 a0_2 a2).bind fun t180 => (if t180 = true then (none) else ((mapmakerlaw07_lives.f kj3).bind fun t181 => (some t181))))) = some r := H
                  have A50 := Aside0.mk A500
                  clear A500
                  by_cases c51 : t179 = true
                  · subst c51
                    have H1 : (none) = some r := by rw [if_pos rfl] at H; exact H
                    clear H
                    have H := H1
                    clear H1
                    exact absurd H (by simp)
                  · replace c51 := Bool.eq_false_iff.mpr c51
                    subst c51
                    have H1 : ((schedule_Open.f kj3 l0_0 a0_1 a0_2 a2).bind fun t180 => (if t180 = true then (none) else ((mapmakerlaw07_lives.f kj3).bind fun t181 => (some t181)))) = some r := by rw [if_neg (show ¬ (false = true) by decide)] at H; exact H
                    clear H
                    have H := H1
                    clear H1
                    replace H := Option.bind_eq_some_iff.mp H
                    obtain ⟨t180, A520, H⟩ := H
                    replace H : (if t180 = true then (none) else ((mapmakerlaw07_lives.f kj3).bind fun t181 => (some t181))) = some r := H
                    have A52 := Aside0.mk A520
                    clear A520
                    by_cases c53 : t180 = true
                    · subst c53
                      have H1 : (none) = some r := by rw [if_pos rfl] at H; exact H
                      clear H
                      have H := H1
                      clear H1
                      exact absurd H (by simp)
                    · replace c53 := Bool.eq_false_iff.mpr c53
                      subst c53
                      have H1 : ((mapmakerlaw07_lives.f kj3).bind fun t181 => (some t181)) = some r := by rw [if_neg (show ¬ (false = true) by decide)] at H; exact H
                      clear H
                      have H := H1
                      clear H1
                      replace H := Option.bind_eq_some_iff.mp H
                      obtain ⟨t181, A540, H⟩ := H
                      replace H : (some t181) = some r := H
                      have A54 := Aside0.mk A540
                      clear A540
                      obtain rfl := Option.some.inj H
                      have hcz55_0 : wc.cell? ⟨gb169, 0, none⟩ = some (.slice A0_0 l0_0.length c0_0) := (blk_cell BK169.out 0).trans rfl
                      have hcz55_1 : wc.cell? ⟨gb169, 1, none⟩ = some (.int .i64 a0_1) := (blk_cell BK169.out 1).trans rfl
                      have hcz55_2 : wc.cell? ⟨gb169, 2, none⟩ = some (.int .i64 a0_2) := (blk_cell BK169.out 2).trans rfl
                      have hfz55_0 := blk_frozen BK169.out 0
                      have hfz55_1 := blk_frozen BK169.out 1
                      have hfz55_2 := blk_frozen BK169.out 2
                      go_wp2_with (first | ((with_reducible refine gate_callee (f := 14) rfl ?_); refine goesL_ (some 32) rfl rfl Try.func14 (by kernel_rfl) rfl #[.agg #[.slice A0_0 l0_0.length c0_0, .int .i64 a0_1, .int .i64 a0_2], .int .i64 a1] rfl (by (try simp only [List.map_toArray, List.map_cons, List.map_nil]); first | done | rfl | (simp only [List.length_drop, List.length_take]; rfl)) ?_; (with_reducible refine (schedule_Next.calls kj3 _ _ l0_0 a0_1 a0_2 a1 t171 false _ ?side1 ?side2 A16.out).mono ?_); (case side1 => repeat (first | exact (Kd.C_below HR0_0.out HB.out) | (with_reducible refine Kd.C_alloc ?_ _) | (with_reducible refine Kd.C_drewN ?_ _) | (with_reducible refine Kd.C_drew ?_))); (case side2 => exact HC0_0.out); rintro e w56 ⟨rfl, hb⟩; refine ⟨_, rfl, ?_⟩; have n0_ := Aside0.mk (blk_below (g := gb169) (o := .cells #[.slice A0_0 l0_0.length c0_0, .int .i64 a0_1, .int .i64 a0_2] 24 (0, 0)) (by (with_reducible repeat (first | refine blk_drewN ?_ _ | refine blk_drew ?_ | refine blk_alloc ?_ _)); exact BK169.out) hb); have n1_ := Aside0.mk (below_step (by repeat (first | (with_reducible first | exact HB.out | apply below_alloc | apply pw_below_drewN | apply below_drew1 | refine below_set ?_ GE169.out) | exact HB.out)) hb); clear BK169; clear HB; have BK169 := n0_; have HB := n1_; clear n0_ n1_; (try clear hb); (try clear hb2); (try clear hk); (try clear hi); have hcz57_0 : w56.cell? ⟨gb169, 0, none⟩ = some (.slice A0_0 l0_0.length c0_0) := (blk_cell BK169.out 0).trans rfl; have hcz57_1 : w56.cell? ⟨gb169, 1, none⟩ = some (.int .i64 a0_1) := (blk_cell BK169.out 1).trans rfl; have hcz57_2 : w56.cell? ⟨gb169, 2, none⟩ = some (.int .i64 a0_2) := (blk_cell BK169.out 2).trans rfl; have hfz57_0 := blk_frozen BK169.out 0; have hfz57_1 := blk_frozen BK169.out 1; have hfz57_2 := blk_frozen BK169.out 2) | ((with_reducible refine gate_callee (f := 14) rfl ?_); refine goesL_ (some 38) rfl rfl Try.func14 (by kernel_rfl) rfl #[.agg #[.slice A0_0 l0_0.length c0_0, .int .i64 a0_1, .int .i64 a0_2], .int .i64 a2] rfl (by (try simp only [List.map_toArray, List.map_cons, List.map_nil]); first | done | rfl | (simp only [List.length_drop, List.length_take]; rfl)) ?_; (with_reducible refine (schedule_Next.calls kj3 _ _ l0_0 a0_1 a0_2 a2 t173 t174 _ ?side1 ?side2 A17.out).mono ?_); (case side1 => repeat (first | exact (Kd.C_below HR0_0.out HB.out) | (with_reducible refine Kd.C_alloc ?_ _) | (with_reducible refine Kd.C_drewN ?_ _) | (with_reducible refine Kd.C_drew ?_))); (case side2 => exact HC0_0.out); rintro e w58 ⟨rfl, hb⟩; refine ⟨_, rfl, ?_⟩; have n0_ := Aside0.mk (blk_below (g := gb169) (o := .cells #[.slice A0_0 l0_0.length c0_0, .int .i64 a0_1, .int .i64 a0_2] 24 (0, 0)) (by (with_reducible repeat (first | refine blk_drewN ?_ _ | refine blk_drew ?_ | refine blk_alloc ?_ _)); exact BK169.out) hb); have n1_ := Aside0.mk (below_step (by repeat (first | (with_reducible first | exact HB.out | apply below_alloc | apply pw_below_drewN | apply below_drew1 | refine below_set ?_ GE169.out) | exact HB.out)) hb); clear BK169; clear HB; have BK169 := n0_; have HB := n1_; clear n0_ n1_; (try clear hb); (try clear hb2); (try clear hk); (try clear hi); have hcz59_0 : w58.cell? ⟨gb169, 0, none⟩ = some (.slice A0_0 l0_0.length c0_0) := (blk_cell BK169.out 0).trans rfl; have hcz59_1 : w58.cell? ⟨gb169, 1, none⟩ = some (.int .i64 a0_1) := (blk_cell BK169.out 1).trans rfl; have hcz59_2 : w58.cell? ⟨gb169, 2, none⟩ = some (.int .i64 a0_2) := (blk_cell BK169.out 2).trans rfl; have hfz59_0 := blk_frozen BK169.out 0; have hfz59_1 := blk_frozen BK169.out 1; have hfz59_2 := blk_frozen BK169.out 2) | ((with_reducible refine gate_callee (f := 10) rfl ?_); refine goesL_ (some 42) rfl rfl Try.func10 (by kernel_rfl) rfl #[.agg #[.slice A0_0 l0_0.length c0_0, .int .i64 a0_1, .int .i64 a0_2]] rfl (by (try simp only [List.map_toArray, List.map_cons, List.map_nil]); first | done | rfl | (simp only [List.length_drop, List.length_take]; rfl)) ?_; (with_reducible refine (schedule_Check.calls kj3 _ _ l0_0 a0_1 a0_2 t175 _ ?side1 ?side2 A18.out).mono ?_); (case side1 => repeat (first | exact (Kd.C_below HR0_0.out HB.out) | (with_reducible refine Kd.C_alloc ?_ _) | (with_reducible refine Kd.C_drewN ?_ _) | (with_reducible refine Kd.C_drew ?_))); (case side2 => exact HC0_0.out); rintro e w60 ⟨rfl, hb⟩; refine ⟨_, rfl, ?_⟩; have n0_ := Aside0.mk (blk_below (g := gb169) (o := .cells #[.slice A0_0 l0_0.length c0_0, .int .i64 a0_1, .int .i64 a0_2] 24 (0, 0)) (by (with_reducible repeat (first | refine blk_drewN ?_ _ | refine blk_drew ?_ | refine blk_alloc ?_ _)); exact BK169.out) hb); have n1_ := Aside0.mk (below_step (by repeat (first | (with_reducible first | exact HB.out | apply below_alloc | apply pw_below_drewN | apply below_drew1 | refine below_set ?_ GE169.out) | exact HB.out)) hb); clear BK169; clear HB; have BK169 := n0_; have HB := n1_; clear n0_ n1_; (try clear hb); (try clear hb2); (try clear hk); (try clear hi); have hcz61_0 : w60.cell? ⟨gb169, 0, none⟩ = some (.slice A0_0 l0_0.length c0_0) := (blk_cell BK169.out 0).trans rfl; have hcz61_1 : w60.cell? ⟨gb169, 1, none⟩ = some (.int .i64 a0_1) := (blk_cell BK169.out 1).trans rfl; have hcz61_2 : w60.cell? ⟨gb169, 2, none⟩ = some (.int .i64 a0_2) := (blk_cell BK169.out 2).trans rfl; have hfz61_0 := blk_frozen BK169.out 0; have hfz61_1 := blk_frozen BK169.out 1; have hfz61_2 := blk_frozen BK169.out 2) | (go_at_call 12; (with_reducible refine (schedule_Open.calls kj3 _ _ l0_0 a0_1 a0_2 a1 false _ ?side1 ?side2 A50.out).mono ?_); (case side1 => repeat (first | exact (Kd.C_below HR0_0.out HB.out) | (with_reducible refine Kd.C_alloc ?_ _) | (with_reducible refine Kd.C_drewN ?_ _) | (with_reducible refine Kd.C_drew ?_))); (case side2 => exact HC0_0.out); rintro e w62 ⟨rfl, hb⟩; have n0_ := Aside0.mk (blk_below (g := gb169) (o := .cells #[.slice A0_0 l0_0.length c0_0, .int .i64 a0_1, .int .i64 a0_2] 24 (0, 0)) (by (with_reducible repeat (first | refine blk_drewN ?_ _ | refine blk_drew ?_ | refine blk_alloc ?_ _)); exact BK169.out) hb); have n1_ := Aside0.mk (below_step (by repeat (first | (with_reducible first | exact HB.out | apply below_alloc | apply pw_below_drewN | apply below_drew1 | refine below_set ?_ GE169.out) | exact HB.out)) hb); clear BK169; clear HB; have BK169 := n0_; have HB := n1_; clear n0_ n1_; (try clear hb); (try clear hb2); (try clear hk); (try clear hi); have hcz63_0 : w62.cell? ⟨gb169, 0, none⟩ = some (.slice A0_0 l0_0.length c0_0) := (blk_cell BK169.out 0).trans rfl; have hcz63_1 : w62.cell? ⟨gb169, 1, none⟩ = some (.int .i64 a0_1) := (blk_cell BK169.out 1).trans rfl; have hcz63_2 : w62.cell? ⟨gb169, 2, none⟩ = some (.int .i64 a0_2) := (blk_cell BK169.out 2).trans rfl; have hfz63_0 := blk_frozen BK169.out 0; have hfz63_1 := blk_frozen BK169.out 1; have hfz63_2 := blk_frozen BK169.out 2) | (go_at_call 12; (with_reducible refine (schedule_Open.calls kj3 _ _ l0_0 a0_1 a0_2 a2 false _ ?side1 ?side2 A52.out).mono ?_); (case side1 => repeat (first | exact (Kd.C_below HR0_0.out HB.out) | (with_reducible refine Kd.C_alloc ?_ _) | (with_reducible refine Kd.C_drewN ?_ _) | (with_reducible refine Kd.C_drew ?_))); (case side2 => exact HC0_0.out); rintro e w64 ⟨rfl, hb⟩; have n0_ := Aside0.mk (blk_below (g := gb169) (o := .cells #[.slice A0_0 l0_0.length c0_0, .int .i64 a0_1, .int .i64 a0_2] 24 (0, 0)) (by (with_reducible repeat (first | refine blk_drewN ?_ _ | refine blk_drew ?_ | refine blk_alloc ?_ _)); exact BK169.out) hb); have n1_ := Aside0.mk (below_step (by repeat (first | (with_reducible first | exact HB.out | apply below_alloc | apply pw_below_drewN | apply below_drew1 | refine below_set ?_ GE169.out) | exact HB.out)) hb); clear BK169; clear HB; have BK169 := n0_; have HB := n1_; clear n0_ n1_; (try clear hb); (try clear hb2); (try clear hk); (try clear hi)) | (go_at_call 9; (with_reducible refine (mapmakerlaw07_lives.calls kj3  t181 _ A54.out).mono ?_); rintro e w65 ⟨rfl, hb⟩; have n0_ := Aside0.mk (blk_below (g := gb169) (o := .cells #[.slice A0_0 l0_0.length c0_0, .int .i64 a0_1, .int .i64 a0_2] 24 (0, 0)) (by (with_reducible repeat (first | refine blk_drewN ?_ _ | refine blk_drew ?_ | refine blk_alloc ?_ _)); exact BK169.out) hb); have n1_ := Aside0.mk (below_step (by repeat (first | (with_reducible first | exact HB.out | apply below_alloc | apply pw_below_drewN | apply below_drew1 | refine below_set ?_ GE169.out) | exact HB.out)) hb); clear BK169; clear HB; have BK169 := n0_; have HB := n1_; clear n0_ n1_; (try clear hb); (try clear hb2); (try clear hk); (try clear hi)))
                      go_ret
                      exact ⟨by first | rfl | (simp [errW_none, errW_some] <;> rfl) | (simp [*, errW_none, errW_some] <;> rfl), by repeat (first | (with_reducible first | exact HB.out | apply below_alloc | apply pw_below_drewN | apply below_drew1 | refine below_set ?_ GE169.out) | exact HB.out)⟩
                · rw [if_neg c49] at H
                  exact absurd H (by simp)
              · rw [if_neg c48] at H
                exact absurd H (by simp)
        · rw [if_neg c19] at H
          have c19b0 : (t175 == 0) = false := beq_eq_false_iff_ne.mpr c19
          have c19b1 : (t175 != 0) = true := bne_iff_ne.mpr c19
          by_cases c66 : t172 = true
          · subst c66
            have H1 : (none) = some r := by rw [if_pos rfl] at H; exact H
            clear H
            have H := H1
            clear H1
            exact absurd H (by simp)
          · replace c66 := Bool.eq_false_iff.mpr c66
            subst c66
            have H1 : (if t174 = true then (none) else (if t171 = 0 then (if t173 = 0 then ((schedule_Open.f kj3 l0_0 a0_1 a0_2 a1).bind fun t176 => (if t176 = true then (none) else ((schedule_Free.f kj3 l0_0 a0_1 a0_2).bind fun t177 => (if t177 = true then (none) else ((mapmakerlaw07_lives.f kj3).bind fun t178 => (some t178)))))) else (none)) else (none))) = some r := by rw [if_neg (show ¬ (false = true) by decide)] at H; exact H
            clear H
            have H := H1
            clear H1
            by_cases c67 : t174 = true
            · subst c67
              have H1 : (none) = some r := by rw [if_pos rfl] at H; exact H
              clear H
              have H := H1
              clear H1
              exact absurd H (by simp)
            · replace c67 := Bool.eq_false_iff.mpr c67
              subst c67
              have H1 : (if t171 = 0 then (if t173 = 0 then ((schedule_Open.f kj3 l0_0 a0_1 a0_2 a1).bind fun t176 => (if t176 = true then (none) else ((schedule_Free.f kj3 l0_0 a0_1 a0_2).bind fun t177 => (if t177 = true then (none) else ((mapmakerlaw07_lives.f kj3).bind fun t178 => (some t178)))))) else (none)) else (none)) = some r := by rw [if_neg (show ¬ (false = true) by decide)] at H; exact H
              clear H
              have H := H1
              clear H1
              by_cases c68 : t171 = 0
              · rw [if_pos c68] at H
                have c68b0 : (t171 == 0) = true := beq_iff_eq.mpr c68
                have c68b1 : (t171 != 0) = false := bne_eq_false_iff_eq.mpr c68
                clear c68
                by_cases c69 : t173 = 0
                · rw [if_pos c69] at H
                  have c69b0 : (t173 == 0) = true := beq_iff_eq.mpr c69
                  have c69b1 : (t173 != 0) = false := bne_eq_false_iff_eq.mpr c69
                  clear c69
                  replace H := Option.bind_eq_some_iff.mp H
                  obtain ⟨t176, A700, H⟩ := H
                  replace H : (if t176 = true then (none) else ((schedule_Free.f kj3 l0_0 a0_1 a0_2).bind fun t177 => (if t177 = true then (none) else ((mapmakerlaw07_lives.f kj3).bind fun t178 => (some t178))))) = some r := H
                  have A70 := Aside0.mk A700
                  clear A700
                  by_cases c71 : t176 = true
                  · subst c71
                    have H1 : (none) = some r := by rw [if_pos rfl] at H; exact H
                    clear H
                    have H := H1
                    clear H1
                    exact absurd H (by simp)
                  · replace c71 := Bool.eq_false_iff.mpr c71
                    subst c71
                    have H1 : ((schedule_Free.f kj3 l0_0 a0_1 a0_2).bind fun t177 => (if t177 = true then (none) else ((mapmakerlaw07_lives.f kj3).bind fun t178 => (some t178)))) = some r := by rw [if_neg (show ¬ (false = true) by decide)] at H; exact H
                    clear H
                    have H := H1
                    clear H1
                    replace H := Option.bind_eq_some_iff.mp H
                    obtain ⟨t177, A720, H⟩ := H
                    replace H : (if t177 = true then (none) else ((mapmakerlaw07_lives.f kj3).bind fun t178 => (some t178))) = some r := H
                    have A72 := Aside0.mk A720
                    clear A720
                    by_cases c73 : t177 = true
                    · subst c73
                      have H1 : (none) = some r := by rw [if_pos rfl] at H; exact H
                      clear H
                      have H := H1
                      clear H1
                      exact absurd H (by simp)
                    · replace c73 := Bool.eq_false_iff.mpr c73
                      subst c73
                      have H1 : ((mapmakerlaw07_lives.f kj3).bind fun t178 => (some t178)) = some r := by rw [if_neg (show ¬ (false = true) by decide)] at H; exact H
                      clear H
                      have H := H1
                      clear H1
                      replace H := Option.bind_eq_some_iff.mp H
                      obtain ⟨t178, A740, H⟩ := H
                      replace H : (some t178) = some r := H
                      have A74 := Aside0.mk A740
                      clear A740
                      obtain rfl := Option.some.inj H
                      have hcz75_0 : wc.cell? ⟨gb169, 0, none⟩ = some (.slice A0_0 l0_0.length c0_0) := (blk_cell BK169.out 0).trans rfl
                      have hcz75_1 : wc.cell? ⟨gb169, 1, none⟩ = some (.int .i64 a0_1) := (blk_cell BK169.out 1).trans rfl
                      have hcz75_2 : wc.cell? ⟨gb169, 2, none⟩ = some (.int .i64 a0_2) := (blk_cell BK169.out 2).trans rfl
                      have hfz75_0 := blk_frozen BK169.out 0
                      have hfz75_1 := blk_frozen BK169.out 1
                      have hfz75_2 := blk_frozen BK169.out 2
                      go_wp2_with (first | ((with_reducible refine gate_callee (f := 14) rfl ?_); refine goesL_ (some 32) rfl rfl Try.func14 (by kernel_rfl) rfl #[.agg #[.slice A0_0 l0_0.length c0_0, .int .i64 a0_1, .int .i64 a0_2], .int .i64 a1] rfl (by (try simp only [List.map_toArray, List.map_cons, List.map_nil]); first | done | rfl | (simp only [List.length_drop, List.length_take]; rfl)) ?_; (with_reducible refine (schedule_Next.calls kj3 _ _ l0_0 a0_1 a0_2 a1 t171 false _ ?side1 ?side2 A16.out).mono ?_); (case side1 => repeat (first | exact (Kd.C_below HR0_0.out HB.out) | (with_reducible refine Kd.C_alloc ?_ _) | (with_reducible refine Kd.C_drewN ?_ _) | (with_reducible refine Kd.C_drew ?_))); (case side2 => exact HC0_0.out); rintro e w76 ⟨rfl, hb⟩; refine ⟨_, rfl, ?_⟩; have n0_ := Aside0.mk (blk_below (g := gb169) (o := .cells #[.slice A0_0 l0_0.length c0_0, .int .i64 a0_1, .int .i64 a0_2] 24 (0, 0)) (by (with_reducible repeat (first | refine blk_drewN ?_ _ | refine blk_drew ?_ | refine blk_alloc ?_ _)); exact BK169.out) hb); have n1_ := Aside0.mk (below_step (by repeat (first | (with_reducible first | exact HB.out | apply below_alloc | apply pw_below_drewN | apply below_drew1 | refine below_set ?_ GE169.out) | exact HB.out)) hb); clear BK169; clear HB; have BK169 := n0_; have HB := n1_; clear n0_ n1_; (try clear hb); (try clear hb2); (try clear hk); (try clear hi); have hcz77_0 : w76.cell? ⟨gb169, 0, none⟩ = some (.slice A0_0 l0_0.length c0_0) := (blk_cell BK169.out 0).trans rfl; have hcz77_1 : w76.cell? ⟨gb169, 1, none⟩ = some (.int .i64 a0_1) := (blk_cell BK169.out 1).trans rfl; have hcz77_2 : w76.cell? ⟨gb169, 2, none⟩ = some (.int .i64 a0_2) := (blk_cell BK169.out 2).trans rfl; have hfz77_0 := blk_frozen BK169.out 0; have hfz77_1 := blk_frozen BK169.out 1; have hfz77_2 := blk_frozen BK169.out 2) | ((with_reducible refine gate_callee (f := 14) rfl ?_); refine goesL_ (some 38) rfl rfl Try.func14 (by kernel_rfl) rfl #[.agg #[.slice A0_0 l0_0.length c0_0, .int .i64 a0_1, .int .i64 a0_2], .int .i64 a2] rfl (by (try simp only [List.map_toArray, List.map_cons, List.map_nil]); first | done | rfl | (simp only [List.length_drop, List.length_take]; rfl)) ?_; (with_reducible refine (schedule_Next.calls kj3 _ _ l0_0 a0_1 a0_2 a2 t173 false _ ?side1 ?side2 A17.out).mono ?_); (case side1 => repeat (first | exact (Kd.C_below HR0_0.out HB.out) | (with_reducible refine Kd.C_alloc ?_ _) | (with_reducible refine Kd.C_drewN ?_ _) | (with_reducible refine Kd.C_drew ?_))); (case side2 => exact HC0_0.out); rintro e w78 ⟨rfl, hb⟩; refine ⟨_, rfl, ?_⟩; have n0_ := Aside0.mk (blk_below (g := gb169) (o := .cells #[.slice A0_0 l0_0.length c0_0, .int .i64 a0_1, .int .i64 a0_2] 24 (0, 0)) (by (with_reducible repeat (first | refine blk_drewN ?_ _ | refine blk_drew ?_ | refine blk_alloc ?_ _)); exact BK169.out) hb); have n1_ := Aside0.mk (below_step (by repeat (first | (with_reducible first | exact HB.out | apply below_alloc | apply pw_below_drewN | apply below_drew1 | refine below_set ?_ GE169.out) | exact HB.out)) hb); clear BK169; clear HB; have BK169 := n0_; have HB := n1_; clear n0_ n1_; (try clear hb); (try clear hb2); (try clear hk); (try clear hi); have hcz79_0 : w78.cell? ⟨gb169, 0, none⟩ = some (.slice A0_0 l0_0.length c0_0) := (blk_cell BK169.out 0).trans rfl; have hcz79_1 : w78.cell? ⟨gb169, 1, none⟩ = some (.int .i64 a0_1) := (blk_cell BK169.out 1).trans rfl; have hcz79_2 : w78.cell? ⟨gb169, 2, none⟩ = some (.int .i64 a0_2) := (blk_cell BK169.out 2).trans rfl; have hfz79_0 := blk_frozen BK169.out 0; have hfz79_1 := blk_frozen BK169.out 1; have hfz79_2 := blk_frozen BK169.out 2) | ((with_reducible refine gate_callee (f := 10) rfl ?_); refine goesL_ (some 42) rfl rfl Try.func10 (by kernel_rfl) rfl #[.agg #[.slice A0_0 l0_0.length c0_0, .int .i64 a0_1, .int .i64 a0_2]] rfl (by (try simp only [List.map_toArray, List.map_cons, List.map_nil]); first | done | rfl | (simp only [List.length_drop, List.length_take]; rfl)) ?_; (with_reducible refine (schedule_Check.calls kj3 _ _ l0_0 a0_1 a0_2 t175 _ ?side1 ?side2 A18.out).mono ?_); (case side1 => repeat (first | exact (Kd.C_below HR0_0.out HB.out) | (with_reducible refine Kd.C_alloc ?_ _) | (with_reducible refine Kd.C_drewN ?_ _) | (with_reducible refine Kd.C_drew ?_))); (case side2 => exact HC0_0.out); rintro e w80 ⟨rfl, hb⟩; refine ⟨_, rfl, ?_⟩; have n0_ := Aside0.mk (blk_below (g := gb169) (o := .cells #[.slice A0_0 l0_0.length c0_0, .int .i64 a0_1, .int .i64 a0_2] 24 (0, 0)) (by (with_reducible repeat (first | refine blk_drewN ?_ _ | refine blk_drew ?_ | refine blk_alloc ?_ _)); exact BK169.out) hb); have n1_ := Aside0.mk (below_step (by repeat (first | (with_reducible first | exact HB.out | apply below_alloc | apply pw_below_drewN | apply below_drew1 | refine below_set ?_ GE169.out) | exact HB.out)) hb); clear BK169; clear HB; have BK169 := n0_; have HB := n1_; clear n0_ n1_; (try clear hb); (try clear hb2); (try clear hk); (try clear hi); have hcz81_0 : w80.cell? ⟨gb169, 0, none⟩ = some (.slice A0_0 l0_0.length c0_0) := (blk_cell BK169.out 0).trans rfl; have hcz81_1 : w80.cell? ⟨gb169, 1, none⟩ = some (.int .i64 a0_1) := (blk_cell BK169.out 1).trans rfl; have hcz81_2 : w80.cell? ⟨gb169, 2, none⟩ = some (.int .i64 a0_2) := (blk_cell BK169.out 2).trans rfl; have hfz81_0 := blk_frozen BK169.out 0; have hfz81_1 := blk_frozen BK169.out 1; have hfz81_2 := blk_frozen BK169.out 2) | (go_at_call 12; (with_reducible refine (schedule_Open.calls kj3 _ _ l0_0 a0_1 a0_2 a1 false _ ?side1 ?side2 A70.out).mono ?_); (case side1 => repeat (first | exact (Kd.C_below HR0_0.out HB.out) | (with_reducible refine Kd.C_alloc ?_ _) | (with_reducible refine Kd.C_drewN ?_ _) | (with_reducible refine Kd.C_drew ?_))); (case side2 => exact HC0_0.out); rintro e w82 ⟨rfl, hb⟩; have n0_ := Aside0.mk (blk_below (g := gb169) (o := .cells #[.slice A0_0 l0_0.length c0_0, .int .i64 a0_1, .int .i64 a0_2] 24 (0, 0)) (by (with_reducible repeat (first | refine blk_drewN ?_ _ | refine blk_drew ?_ | refine blk_alloc ?_ _)); exact BK169.out) hb); have n1_ := Aside0.mk (below_step (by repeat (first | (with_reducible first | exact HB.out | apply below_alloc | apply pw_below_drewN | apply below_drew1 | refine below_set ?_ GE169.out) | exact HB.out)) hb); clear BK169; clear HB; have BK169 := n0_; have HB := n1_; clear n0_ n1_; (try clear hb); (try clear hb2); (try clear hk); (try clear hi); have hcz83_0 : w82.cell? ⟨gb169, 0, none⟩ = some (.slice A0_0 l0_0.length c0_0) := (blk_cell BK169.out 0).trans rfl; have hcz83_1 : w82.cell? ⟨gb169, 1, none⟩ = some (.int .i64 a0_1) := (blk_cell BK169.out 1).trans rfl; have hcz83_2 : w82.cell? ⟨gb169, 2, none⟩ = some (.int .i64 a0_2) := (blk_cell BK169.out 2).trans rfl; have hfz83_0 := blk_frozen BK169.out 0; have hfz83_1 := blk_frozen BK169.out 1; have hfz83_2 := blk_frozen BK169.out 2) | (go_at_call 16; (with_reducible refine (schedule_Free.calls kj3 _ _ l0_0 a0_1 a0_2 false _ ?side1 ?side2 A72.out).mono ?_); (case side1 => repeat (first | exact (Kd.C_below HR0_0.out HB.out) | (with_reducible refine Kd.C_alloc ?_ _) | (with_reducible refine Kd.C_drewN ?_ _) | (with_reducible refine Kd.C_drew ?_))); (case side2 => exact HC0_0.out); rintro e w84 ⟨rfl, hb⟩; have n0_ := Aside0.mk (blk_below (g := gb169) (o := .cells #[.slice A0_0 l0_0.length c0_0, .int .i64 a0_1, .int .i64 a0_2] 24 (0, 0)) (by (with_reducible repeat (first | refine blk_drewN ?_ _ | refine blk_drew ?_ | refine blk_alloc ?_ _)); exact BK169.out) hb); have n1_ := Aside0.mk (below_step (by repeat (first | (with_reducible first | exact HB.out | apply below_alloc | apply pw_below_drewN | apply below_drew1 | refine below_set ?_ GE169.out) | exact HB.out)) hb); clear BK169; clear HB; have BK169 := n0_; have HB := n1_; clear n0_ n1_; (try clear hb); (try clear hb2); (try clear hk); (try clear hi)) | (go_at_call 9; (with_reducible refine (mapmakerlaw07_lives.calls kj3  t178 _ A74.out).mono ?_); rintro e w85 ⟨rfl, hb⟩; have n0_ := Aside0.mk (blk_below (g := gb169) (o := .cells #[.slice A0_0 l0_0.length c0_0, .int .i64 a0_1, .int .i64 a0_2] 24 (0, 0)) (by (with_reducible repeat (first | refine blk_drewN ?_ _ | refine blk_drew ?_ | refine blk_alloc ?_ _)); exact BK169.out) hb); have n1_ := Aside0.mk (below_step (by repeat (first | (with_reducible first | exact HB.out | apply below_alloc | apply pw_below_drewN | apply below_drew1 | refine below_set ?_ GE169.out) | exact HB.out)) hb); clear BK169; clear HB; have BK169 := n0_; have HB := n1_; clear n0_ n1_; (try clear hb); (try clear hb2); (try clear hk); (try clear hi)))
                      go_ret
                      exact ⟨by first | rfl | (simp [errW_none, errW_some] <;> rfl) | (simp [*, errW_none, errW_some] <;> rfl), by repeat (first | (with_reducible first | exact HB.out | apply below_alloc | apply pw_below_drewN | apply below_drew1 | refine below_set ?_ GE169.out) | exact HB.out)⟩
                · rw [if_neg c69] at H
                  exact absurd H (by simp)
              · rw [if_neg c68] at H
                exact absurd H (by simp)

/-- THE ONE PURE STATEMENT of mapmakerlaw07_ScheduleMoves. -/
def mapmakerlaw07_ScheduleMoves.Pure : Prop := ∀ (l0_0 : List (S35)) (a0_1 : Int) (a0_2 : Int) (a1 : Int) (a2 : Int), ((l0_0.length ≤ maxLen ∧ ∀ x_ ∈ l0_0, (Lit.int .i64 x_.f0).wf = true ∧ (Lit.int .i64 x_.f1).wf = true) ∧ (Lit.int .i64 a0_1).wf = true ∧ (Lit.int .i64 a0_2).wf = true) → ((Lit.int .i64 a1).wf = true) → ((Lit.int .i64 a2).wf = true) → ∃ k, mapmakerlaw07_ScheduleMoves.f k l0_0 a0_1 a0_2 a1 a2 = some true

end Go.Proofs.Ytijjgdgbeigljaa.PAll
