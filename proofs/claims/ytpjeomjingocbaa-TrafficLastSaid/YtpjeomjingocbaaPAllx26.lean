-- Written by a program of this session (wip/tools), over the words that print.sh lays. (slim)
import Derived.Test.YtpjeomjingocbaaPAllx0
import Derived.Test.YtpjeomjingocbaaPAllx1
import Derived.Test.YtpjeomjingocbaaPAllx13
import Derived.Test.YtpjeomjingocbaaPAllx15
import Derived.Test.YtpjeomjingocbaaPAllx18
namespace Go.Proofs.Ytpjeomjingocbaa.PAll
open Go.RowKit Go.Proofs.YtpjeomjingocbaaW.PrintWords Go.Proofs.YtpjeomjingocbaaW.PrintLast Go.Proofs.YtpjeomjingocbaaW.PrintMore
attribute [local go_sem] max2_int min2_int max_two min_two max_three min_three max_four min_four   -- for this text's walks alone
set_option linter.unusedVariables false
set_option linter.unusedSimpArgs false
attribute [local irreducible] Calls

/-! ### mapmakerlaw48_TrafficLast: function 5 -/
mutual
def mapmakerlaw48_TrafficLast.j0 : Nat → Bool → List Int → List (S64) → List (S48) → List (S43) → List (S43) → Int → Int → Int → Int → Int → Option (Bool)
 | 0, _, _, _, _, _, _, _, _, _, _, _ => none
 | k + 1, x26, x259000, x259001, x259002, x260000, x260001, x260002, x261000, x261001, x261002, x261003 => if x26 = true then ((mapmakerlaw48_lives.f k).bind fun t262 => (some t262)) else ((traffic_Weights.f k x259000 x259001 x259002 x260000 x260002).bind fun bt263 => (if bt263.2 = 0 then ((traffic_Check.f k (([(⟨x261000, x261001, x261002, x261003⟩ : S43)] : List (S43)))).bind fun t270 => (mapmakerlaw48_TrafficLast.j1 k bt263.1 (t270 != 0) x259000 x259001 x259002 x260000 x260001 x260002 x261000 x261001 x261002 x261003)) else (mapmakerlaw48_TrafficLast.j1 k bt263.1 true x259000 x259001 x259002 x260000 x260001 x260002 x261000 x261001 x261002 x261003)))
def mapmakerlaw48_TrafficLast.j1 : Nat → List Int → Bool → List Int → List (S64) → List (S48) → List (S43) → List (S43) → Int → Int → Int → Int → Int → Option (Bool)
 | 0, _, _, _, _, _, _, _, _, _, _, _, _ => none
 | k + 1, x7, x44, x259000, x259001, x259002, x260000, x260001, x260002, x261000, x261001, x261002, x261003 => if x44 = true then ((mapmakerlaw48_lives.f k).bind fun t271 => (some t271)) else (mapmakerlaw48_TrafficLast.l0 k x7 ([] : List (S43)) 0 x259000 x259001 x259002 x260000 x260001 x260002 x261000 x261001 x261002 x261003)
def mapmakerlaw48_TrafficLast.l0 : Nat → List Int → List (S43) → Int → List Int → List (S64) → List (S48) → List (S43) → List (S43) → Int → Int → Int → Int → Int → Option (Bool)
 | 0, _, _, _, _, _, _, _, _, _, _, _, _, _ => none
 | k + 1, x7, x9, x10, x259000, x259001, x259002, x260000, x260001, x260002, x261000, x261001, x261002, x261003 => if x10 < (x260000.length : Int) then (if 0 ≤ x10 then (if x9.length < 4398046511104 then (mapmakerlaw48_TrafficLast.l0 k x7 (x9 ++ [(⟨(rd_T43 x260000 x10).f0, (rd_T43 x260000 x10).f1, (rd_T43 x260000 x10).f2, (rd_T43 x260000 x10).f3⟩ : S43)]) (wrap64 (x10 + 1)) x259000 x259001 x259002 x260000 x260001 x260002 x261000 x261001 x261002 x261003) else (none)) else (none)) else (if x9.length < 4398046511104 then ((traffic_Weights.f k x259000 x259001 x259002 (x9 ++ [(⟨x261000, x261001, x261002, x261003⟩ : S43)]) x260002).bind fun bt279 => ((traffic_Weights.f k x259000 x259001 x259002 (([(⟨x261000, x261001, x261002, x261003⟩ : S43)] : List (S43))) x260002).bind fun bt286 => (if bt279.2 = 0 then (if bt286.2 = 0 then (if (x7.length : Int) = (bt279.1.length : Int) then (if (x7.length : Int) = (bt286.1.length : Int) then (mapmakerlaw48_TrafficLast.j3 k x7 bt279.1 bt286.1 ((x7.length : Int) != (x259002.length : Int)) x259000 x259001 x259002 x260000 x260001 x260002 x261000 x261001 x261002 x261003) else (none)) else (none)) else (none)) else (none)))) else (none))
def mapmakerlaw48_TrafficLast.j3 : Nat → List Int → List Int → List Int → Bool → List Int → List (S64) → List (S48) → List (S43) → List (S43) → Int → Int → Int → Int → Int → Option (Bool)
 | 0, _, _, _, _, _, _, _, _, _, _, _, _, _, _ => none
 | k + 1, x7, x11, x13, x109, x259000, x259001, x259002, x260000, x260001, x260002, x261000, x261001, x261002, x261003 => if x109 = true then (none) else (if x261002 ≤ x260002 then (mapmakerlaw48_TrafficLast.j4 k x7 x11 x13 (decide (x260002 < x261003)) x259000 x259001 x259002 x261000 x261001 x261002 x261003) else (mapmakerlaw48_TrafficLast.j4 k x7 x11 x13 false x259000 x259001 x259002 x261000 x261001 x261002 x261003))
def mapmakerlaw48_TrafficLast.j4 : Nat → List Int → List Int → List Int → Bool → List Int → List (S64) → List (S48) → Int → Int → Int → Int → Option (Bool)
 | 0, _, _, _, _, _, _, _, _, _, _, _ => none
 | k + 1, x7, x11, x13, x15, x259000, x259001, x259002, x261000, x261001, x261002, x261003 => mapmakerlaw48_TrafficLast.l1 k x7 x11 x13 x15 0 x259000 x259001 x259002 x261000 x261001 x261002 x261003
def mapmakerlaw48_TrafficLast.l1 : Nat → List Int → List Int → List Int → Bool → Int → List Int → List (S64) → List (S48) → Int → Int → Int → Int → Option (Bool)
 | 0, _, _, _, _, _, _, _, _, _, _, _, _ => none
 | k + 1, x7, x11, x13, x15, x16, x259000, x259001, x259002, x261000, x261001, x261002, x261003 => if x16 < (x7.length : Int) then (if 0 ≤ x16 then (if x15 = true then (if x16 < (x259002.length : Int) then (mapmakerlaw48_TrafficLast.j6 k x7 x11 x13 x15 x16 (rd x7 x16) (((rd_T48 x259002 x16).f2) == x261000) x259000 x259001 x259002 x261000 x261001 x261002 x261003) else (none)) else (mapmakerlaw48_TrafficLast.j6 k x7 x11 x13 x15 x16 (rd x7 x16) false x259000 x259001 x259002 x261000 x261001 x261002 x261003)) else (none)) else ((mapmakerlaw48_lives.f k).bind fun t290 => (some t290))
def mapmakerlaw48_TrafficLast.j6 : Nat → List Int → List Int → List Int → Bool → Int → Int → Bool → List Int → List (S64) → List (S48) → Int → Int → Int → Int → Option (Bool)
 | 0, _, _, _, _, _, _, _, _, _, _, _, _, _, _ => none
 | k + 1, x7, x11, x13, x15, x16, x17, x143, x259000, x259001, x259002, x261000, x261001, x261002, x261003 => if x143 = true then (if 0 ≤ x16 then (if x16 < (x13.length : Int) then (if x16 < (x11.length : Int) then (if (rd x11 x16) = (rd x13 x16) then (mapmakerlaw48_TrafficLast.l1 k x7 x11 x13 x15 (wrap64 (x16 + 1)) x259000 x259001 x259002 x261000 x261001 x261002 x261003) else (none)) else (none)) else (none)) else (none)) else (if 0 ≤ x16 then (if x16 < (x11.length : Int) then (if (rd x11 x16) = x17 then (mapmakerlaw48_TrafficLast.l1 k x7 x11 x13 x15 (wrap64 (x16 + 1)) x259000 x259001 x259002 x261000 x261001 x261002 x261003) else (none)) else (none)) else (none))
end
def mapmakerlaw48_TrafficLast.f (k : Nat) (l0_0 : List Int) (l0_1 : List (S64)) (l0_2 : List (S48)) (l1_0 : List (S43)) (l1_1 : List (S43)) (a1_2 : Int) (a2_0 : Int) (a2_1 : Int) (a2_2 : Int) (a2_3 : Int) : Option (Bool) := (mapmakerlaw48_few.f k l0_0 l0_1 l0_2).bind fun t261 => (if t261 = true then (mapmakerlaw48_TrafficLast.j0 k (decide ((l1_0.length : Int) > 40)) l0_0 l0_1 l0_2 l1_0 l1_1 a1_2 a2_0 a2_1 a2_2 a2_3) else (mapmakerlaw48_TrafficLast.j0 k true l0_0 l0_1 l0_2 l1_0 l1_1 a1_2 a2_0 a2_1 a2_2 a2_3))
theorem mapmakerlaw48_TrafficLast.mono_l : ∀ k, (∀ y0 y1 y2 y3 y4 y5 y6 y7 y8 y9 y10, LeO (mapmakerlaw48_TrafficLast.j0 k y0 y1 y2 y3 y4 y5 y6 y7 y8 y9 y10) (mapmakerlaw48_TrafficLast.j0 (k + 1) y0 y1 y2 y3 y4 y5 y6 y7 y8 y9 y10)) ∧ (∀ y0 y1 y2 y3 y4 y5 y6 y7 y8 y9 y10 y11, LeO (mapmakerlaw48_TrafficLast.j1 k y0 y1 y2 y3 y4 y5 y6 y7 y8 y9 y10 y11) (mapmakerlaw48_TrafficLast.j1 (k + 1) y0 y1 y2 y3 y4 y5 y6 y7 y8 y9 y10 y11)) ∧ (∀ y0 y1 y2 y3 y4 y5 y6 y7 y8 y9 y10 y11 y12, LeO (mapmakerlaw48_TrafficLast.l0 k y0 y1 y2 y3 y4 y5 y6 y7 y8 y9 y10 y11 y12) (mapmakerlaw48_TrafficLast.l0 (k + 1) y0 y1 y2 y3 y4 y5 y6 y7 y8 y9 y10 y11 y12)) ∧ (∀ y0 y1 y2 y3 y4 y5 y6 y7 y8 y9 y10 y11 y12 y13, LeO (mapmakerlaw48_TrafficLast.j3 k y0 y1 y2 y3 y4 y5 y6 y7 y8 y9 y10 y11 y12 y13) (mapmakerlaw48_TrafficLast.j3 (k + 1) y0 y1 y2 y3 y4 y5 y6 y7 y8 y9 y10 y11 y12 y13)) ∧ (∀ y0 y1 y2 y3 y4 y5 y6 y7 y8 y9 y10, LeO (mapmakerlaw48_TrafficLast.j4 k y0 y1 y2 y3 y4 y5 y6 y7 y8 y9 y10) (mapmakerlaw48_TrafficLast.j4 (k + 1) y0 y1 y2 y3 y4 y5 y6 y7 y8 y9 y10)) ∧ (∀ y0 y1 y2 y3 y4 y5 y6 y7 y8 y9 y10 y11, LeO (mapmakerlaw48_TrafficLast.l1 k y0 y1 y2 y3 y4 y5 y6 y7 y8 y9 y10 y11) (mapmakerlaw48_TrafficLast.l1 (k + 1) y0 y1 y2 y3 y4 y5 y6 y7 y8 y9 y10 y11)) ∧ (∀ y0 y1 y2 y3 y4 y5 y6 y7 y8 y9 y10 y11 y12 y13, LeO (mapmakerlaw48_TrafficLast.j6 k y0 y1 y2 y3 y4 y5 y6 y7 y8 y9 y10 y11 y12 y13) (mapmakerlaw48_TrafficLast.j6 (k + 1) y0 y1 y2 y3 y4 y5 y6 y7 y8 y9 y10 y11 y12 y13))
 | 0 => ⟨fun _ _ _ _ _ _ _ _ _ _ _ r h => by simp [mapmakerlaw48_TrafficLast.j0] at h, fun _ _ _ _ _ _ _ _ _ _ _ _ r h => by simp [mapmakerlaw48_TrafficLast.j1] at h, fun _ _ _ _ _ _ _ _ _ _ _ _ _ r h => by simp [mapmakerlaw48_TrafficLast.l0] at h, fun _ _ _ _ _ _ _ _ _ _ _ _ _ _ r h => by simp [mapmakerlaw48_TrafficLast.j3] at h, fun _ _ _ _ _ _ _ _ _ _ _ r h => by simp [mapmakerlaw48_TrafficLast.j4] at h, fun _ _ _ _ _ _ _ _ _ _ _ _ r h => by simp [mapmakerlaw48_TrafficLast.l1] at h, fun _ _ _ _ _ _ _ _ _ _ _ _ _ _ r h => by simp [mapmakerlaw48_TrafficLast.j6] at h⟩
 | k + 1 => by
  obtain ⟨ih0, ih1, ih2, ih3, ih4, ih5, ih6⟩ := mapmakerlaw48_TrafficLast.mono_l k
  refine ⟨?_, ?_, ?_, ?_, ?_, ?_, ?_⟩
  ·intro y0 y1 y2 y3 y4 y5 y6 y7 y8 y9 y10
   unfold mapmakerlaw48_TrafficLast.j0
   repeat' first
   | (with_reducible exact ih0 _ _ _ _ _ _ _ _ _ _ _)
   | (with_reducible exact ih1 _ _ _ _ _ _ _ _ _ _ _ _)
   | (with_reducible exact ih2 _ _ _ _ _ _ _ _ _ _ _ _ _)
   | (with_reducible exact ih3 _ _ _ _ _ _ _ _ _ _ _ _ _ _)
   | (with_reducible exact ih4 _ _ _ _ _ _ _ _ _ _ _)
   | (with_reducible exact ih5 _ _ _ _ _ _ _ _ _ _ _ _)
   | (with_reducible exact ih6 _ _ _ _ _ _ _ _ _ _ _ _ _ _)
   | (with_reducible exact mapmakerlaw48_few.mono _ _ _ _)
   | (with_reducible exact mapmakerlaw48_lives.mono _)
   | (with_reducible exact traffic_Check.mono _ _)
   | (with_reducible exact traffic_Weights.mono _ _ _ _ _ _)
   | (with_reducible exact LeO.refl _)
   | (with_reducible exact LeO.none _)
   | (with_reducible refine LeO.ite ?_ ?_)
   | (with_reducible refine LeO.bind ?_ (fun _ => ?_))
   | exact ih0 _ _ _ _ _ _ _ _ _ _ _
   | exact ih1 _ _ _ _ _ _ _ _ _ _ _ _
   | exact ih2 _ _ _ _ _ _ _ _ _ _ _ _ _
   | exact ih3 _ _ _ _ _ _ _ _ _ _ _ _ _ _
   | exact ih4 _ _ _ _ _ _ _ _ _ _ _
   | exact ih5 _ _ _ _ _ _ _ _ _ _ _ _
   | exact ih6 _ _ _ _ _ _ _ _ _ _ _ _ _ _
   | exact mapmakerlaw48_few.mono _ _ _ _
   | exact mapmakerlaw48_lives.mono _
   | exact traffic_Check.mono _ _
   | exact traffic_Weights.mono _ _ _ _ _ _
   | exact LeO.none _
   | refine LeO.ite ?_ ?_
   | refine LeO.bind ?_ (fun _ => ?_)
  ·intro y0 y1 y2 y3 y4 y5 y6 y7 y8 y9 y10 y11
   unfold mapmakerlaw48_TrafficLast.j1
   repeat' first
   | (with_reducible exact ih0 _ _ _ _ _ _ _ _ _ _ _)
   | (with_reducible exact ih1 _ _ _ _ _ _ _ _ _ _ _ _)
   | (with_reducible exact ih2 _ _ _ _ _ _ _ _ _ _ _ _ _)
   | (with_reducible exact ih3 _ _ _ _ _ _ _ _ _ _ _ _ _ _)
   | (with_reducible exact ih4 _ _ _ _ _ _ _ _ _ _ _)
   | (with_reducible exact ih5 _ _ _ _ _ _ _ _ _ _ _ _)
   | (with_reducible exact ih6 _ _ _ _ _ _ _ _ _ _ _ _ _ _)
   | (with_reducible exact mapmakerlaw48_few.mono _ _ _ _)
   | (with_reducible exact mapmakerlaw48_lives.mono _)
   | (with_reducible exact traffic_Check.mono _ _)
   | (with_reducible exact traffic_Weights.mono _ _ _ _ _ _)
   | (with_reducible exact LeO.refl _)
   | (with_reducible exact LeO.none _)
   | (with_reducible refine LeO.ite ?_ ?_)
   | (with_reducible refine LeO.bind ?_ (fun _ => ?_))
   | exact ih0 _ _ _ _ _ _ _ _ _ _ _
   | exact ih1 _ _ _ _ _ _ _ _ _ _ _ _
   | exact ih2 _ _ _ _ _ _ _ _ _ _ _ _ _
   | exact ih3 _ _ _ _ _ _ _ _ _ _ _ _ _ _
   | exact ih4 _ _ _ _ _ _ _ _ _ _ _
   | exact ih5 _ _ _ _ _ _ _ _ _ _ _ _
   | exact ih6 _ _ _ _ _ _ _ _ _ _ _ _ _ _
   | exact mapmakerlaw48_few.mono _ _ _ _
   | exact mapmakerlaw48_lives.mono _
   | exact traffic_Check.mono _ _
   | exact traffic_Weights.mono _ _ _ _ _ _
   | exact LeO.none _
   | refine LeO.ite ?_ ?_
   | refine LeO.bind ?_ (fun _ => ?_)
  ·intro y0 y1 y2 y3 y4 y5 y6 y7 y8 y9 y10 y11 y12
   unfold mapmakerlaw48_TrafficLast.l0
   repeat' first
   | (with_reducible exact ih0 _ _ _ _ _ _ _ _ _ _ _)
   | (with_reducible exact ih1 _ _ _ _ _ _ _ _ _ _ _ _)
   | (with_reducible exact ih2 _ _ _ _ _ _ _ _ _ _ _ _ _)
   | (with_reducible exact ih3 _ _ _ _ _ _ _ _ _ _ _ _ _ _)
   | (with_reducible exact ih4 _ _ _ _ _ _ _ _ _ _ _)
   | (with_reducible exact ih5 _ _ _ _ _ _ _ _ _ _ _ _)
   | (with_reducible exact ih6 _ _ _ _ _ _ _ _ _ _ _ _ _ _)
   | (with_reducible exact mapmakerlaw48_few.mono _ _ _ _)
   | (with_reducible exact mapmakerlaw48_lives.mono _)
   | (with_reducible exact traffic_Check.mono _ _)
   | (with_reducible exact traffic_Weights.mono _ _ _ _ _ _)
   | (with_reducible exact LeO.refl _)
   | (with_reducible exact LeO.none _)
   | (with_reducible refine LeO.ite ?_ ?_)
   | (with_reducible refine LeO.bind ?_ (fun _ => ?_))
   | exact ih0 _ _ _ _ _ _ _ _ _ _ _
   | exact ih1 _ _ _ _ _ _ _ _ _ _ _ _
   | exact ih2 _ _ _ _ _ _ _ _ _ _ _ _ _
   | exact ih3 _ _ _ _ _ _ _ _ _ _ _ _ _ _
   | exact ih4 _ _ _ _ _ _ _ _ _ _ _
   | exact ih5 _ _ _ _ _ _ _ _ _ _ _ _
   | exact ih6 _ _ _ _ _ _ _ _ _ _ _ _ _ _
   | exact mapmakerlaw48_few.mono _ _ _ _
   | exact mapmakerlaw48_lives.mono _
   | exact traffic_Check.mono _ _
   | exact traffic_Weights.mono _ _ _ _ _ _
   | exact LeO.none _
   | refine LeO.ite ?_ ?_
   | refine LeO.bind ?_ (fun _ => ?_)
  ·intro y0 y1 y2 y3 y4 y5 y6 y7 y8 y9 y10 y11 y12 y13
   unfold mapmakerlaw48_TrafficLast.j3
   repeat' first
   | (with_reducible exact ih0 _ _ _ _ _ _ _ _ _ _ _)
   | (with_reducible exact ih1 _ _ _ _ _ _ _ _ _ _ _ _)
   | (with_reducible exact ih2 _ _ _ _ _ _ _ _ _ _ _ _ _)
   | (with_reducible exact ih3 _ _ _ _ _ _ _ _ _ _ _ _ _ _)
   | (with_reducible exact ih4 _ _ _ _ _ _ _ _ _ _ _)
   | (with_reducible exact ih5 _ _ _ _ _ _ _ _ _ _ _ _)
   | (with_reducible exact ih6 _ _ _ _ _ _ _ _ _ _ _ _ _ _)
   | (with_reducible exact mapmakerlaw48_few.mono _ _ _ _)
   | (with_reducible exact mapmakerlaw48_lives.mono _)
   | (with_reducible exact traffic_Check.mono _ _)
   | (with_reducible exact traffic_Weights.mono _ _ _ _ _ _)
   | (with_reducible exact LeO.refl _)
   | (with_reducible exact LeO.none _)
   | (with_reducible refine LeO.ite ?_ ?_)
   | (with_reducible refine LeO.bind ?_ (fun _ => ?_))
   | exact ih0 _ _ _ _ _ _ _ _ _ _ _
   | exact ih1 _ _ _ _ _ _ _ _ _ _ _ _
   | exact ih2 _ _ _ _ _ _ _ _ _ _ _ _ _
   | exact ih3 _ _ _ _ _ _ _ _ _ _ _ _ _ _
   | exact ih4 _ _ _ _ _ _ _ _ _ _ _
   | exact ih5 _ _ _ _ _ _ _ _ _ _ _ _
   | exact ih6 _ _ _ _ _ _ _ _ _ _ _ _ _ _
   | exact mapmakerlaw48_few.mono _ _ _ _
   | exact mapmakerlaw48_lives.mono _
   | exact traffic_Check.mono _ _
   | exact traffic_Weights.mono _ _ _ _ _ _
   | exact LeO.none _
   | refine LeO.ite ?_ ?_
   | refine LeO.bind ?_ (fun _ => ?_)
  ·intro y0 y1 y2 y3 y4 y5 y6 y7 y8 y9 y10
   unfold mapmakerlaw48_TrafficLast.j4
   repeat' first
   | (with_reducible exact ih0 _ _ _ _ _ _ _ _ _ _ _)
   | (with_reducible exact ih1 _ _ _ _ _ _ _ _ _ _ _ _)
   | (with_reducible exact ih2 _ _ _ _ _ _ _ _ _ _ _ _ _)
   | (with_reducible exact ih3 _ _ _ _ _ _ _ _ _ _ _ _ _ _)
   | (with_reducible exact ih4 _ _ _ _ _ _ _ _ _ _ _)
   | (with_reducible exact ih5 _ _ _ _ _ _ _ _ _ _ _ _)
   | (with_reducible exact ih6 _ _ _ _ _ _ _ _ _ _ _ _ _ _)
   | (with_reducible exact mapmakerlaw48_few.mono _ _ _ _)
   | (with_reducible exact mapmakerlaw48_lives.mono _)
   | (with_reducible exact traffic_Check.mono _ _)
   | (with_reducible exact traffic_Weights.mono _ _ _ _ _ _)
   | (with_reducible exact LeO.refl _)
   | (with_reducible exact LeO.none _)
   | (with_reducible refine LeO.ite ?_ ?_)
   | (with_reducible refine LeO.bind ?_ (fun _ => ?_))
   | exact ih0 _ _ _ _ _ _ _ _ _ _ _
   | exact ih1 _ _ _ _ _ _ _ _ _ _ _ _
   | exact ih2 _ _ _ _ _ _ _ _ _ _ _ _ _
   | exact ih3 _ _ _ _ _ _ _ _ _ _ _ _ _ _
   | exact ih4 _ _ _ _ _ _ _ _ _ _ _
   | exact ih5 _ _ _ _ _ _ _ _ _ _ _ _
   | exact ih6 _ _ _ _ _ _ _ _ _ _ _ _ _ _
   | exact mapmakerlaw48_few.mono _ _ _ _
   | exact mapmakerlaw48_lives.mono _
   | exact traffic_Check.mono _ _
   | exact traffic_Weights.mono _ _ _ _ _ _
   | exact LeO.none _
   | refine LeO.ite ?_ ?_
   | refine LeO.bind ?_ (fun _ => ?_)
  ·intro y0 y1 y2 y3 y4 y5 y6 y7 y8 y9 y10 y11
   unfold mapmakerlaw48_TrafficLast.l1
   repeat' first
   | (with_reducible exact ih0 _ _ _ _ _ _ _ _ _ _ _)
   | (with_reducible exact ih1 _ _ _ _ _ _ _ _ _ _ _ _)
   | (with_reducible exact ih2 _ _ _ _ _ _ _ _ _ _ _ _ _)
   | (with_reducible exact ih3 _ _ _ _ _ _ _ _ _ _ _ _ _ _)
   | (with_reducible exact ih4 _ _ _ _ _ _ _ _ _ _ _)
   | (with_reducible exact ih5 _ _ _ _ _ _ _ _ _ _ _ _)
   | (with_reducible exact ih6 _ _ _ _ _ _ _ _ _ _ _ _ _ _)
   | (with_reducible exact mapmakerlaw48_few.mono _ _ _ _)
   | (with_reducible exact mapmakerlaw48_lives.mono _)
   | (with_reducible exact traffic_Check.mono _ _)
   | (with_reducible exact traffic_Weights.mono _ _ _ _ _ _)
   | (with_reducible exact LeO.refl _)
   | (with_reducible exact LeO.none _)
   | (with_reducible refine LeO.ite ?_ ?_)
   | (with_reducible refine LeO.bind ?_ (fun _ => ?_))
   | exact ih0 _ _ _ _ _ _ _ _ _ _ _
   | exact ih1 _ _ _ _ _ _ _ _ _ _ _ _
   | exact ih2 _ _ _ _ _ _ _ _ _ _ _ _ _
   | exact ih3 _ _ _ _ _ _ _ _ _ _ _ _ _ _
   | exact ih4 _ _ _ _ _ _ _ _ _ _ _
   | exact ih5 _ _ _ _ _ _ _ _ _ _ _ _
   | exact ih6 _ _ _ _ _ _ _ _ _ _ _ _ _ _
   | exact mapmakerlaw48_few.mono _ _ _ _
   | exact mapmakerlaw48_lives.mono _
   | exact traffic_Check.mono _ _
   | exact traffic_Weights.mono _ _ _ _ _ _
   | exact LeO.none _
   | refine LeO.ite ?_ ?_
   | refine LeO.bind ?_ (fun _ => ?_)
  ·intro y0 y1 y2 y3 y4 y5 y6 y7 y8 y9 y10 y11 y12 y13
   unfold mapmakerlaw48_TrafficLast.j6
   repeat' first
   | (with_reducible exact ih0 _ _ _ _ _ _ _ _ _ _ _)
   | (with_reducible exact ih1 _ _ _ _ _ _ _ _ _ _ _ _)
   | (with_reducible exact ih2 _ _ _ _ _ _ _ _ _ _ _ _ _)
   | (with_reducible exact ih3 _ _ _ _ _ _ _ _ _ _ _ _ _ _)
   | (with_reducible exact ih4 _ _ _ _ _ _ _ _ _ _ _)
   | (with_reducible exact ih5 _ _ _ _ _ _ _ _ _ _ _ _)
   | (with_reducible exact ih6 _ _ _ _ _ _ _ _ _ _ _ _ _ _)
   | (with_reducible exact mapmakerlaw48_few.mono _ _ _ _)
   | (with_reducible exact mapmakerlaw48_lives.mono _)
   | (with_reducible exact traffic_Check.mono _ _)
   | (with_reducible exact traffic_Weights.mono _ _ _ _ _ _)
   | (with_reducible exact LeO.refl _)
   | (with_reducible exact LeO.none _)
   | (with_reducible refine LeO.ite ?_ ?_)
   | (with_reducible refine LeO.bind ?_ (fun _ => ?_))
   | exact ih0 _ _ _ _ _ _ _ _ _ _ _
   | exact ih1 _ _ _ _ _ _ _ _ _ _ _ _
   | exact ih2 _ _ _ _ _ _ _ _ _ _ _ _ _
   | exact ih3 _ _ _ _ _ _ _ _ _ _ _ _ _ _
   | exact ih4 _ _ _ _ _ _ _ _ _ _ _
   | exact ih5 _ _ _ _ _ _ _ _ _ _ _ _
   | exact ih6 _ _ _ _ _ _ _ _ _ _ _ _ _ _
   | exact mapmakerlaw48_few.mono _ _ _ _
   | exact mapmakerlaw48_lives.mono _
   | exact traffic_Check.mono _ _
   | exact traffic_Weights.mono _ _ _ _ _ _
   | exact LeO.none _
   | refine LeO.ite ?_ ?_
   | refine LeO.bind ?_ (fun _ => ?_)
theorem mapmakerlaw48_TrafficLast.mono : ∀ a0 a1 a2 a3 a4 a5 a6 a7 a8 a9 k, LeO (mapmakerlaw48_TrafficLast.f k a0 a1 a2 a3 a4 a5 a6 a7 a8 a9) (mapmakerlaw48_TrafficLast.f (k + 1) a0 a1 a2 a3 a4 a5 a6 a7 a8 a9) := by
 intro a0 a1 a2 a3 a4 a5 a6 a7 a8 a9 k
 obtain ⟨ih0, ih1, ih2, ih3, ih4, ih5, ih6⟩ := mapmakerlaw48_TrafficLast.mono_l k
 unfold mapmakerlaw48_TrafficLast.f
 repeat' first
   | (with_reducible exact ih0 _ _ _ _ _ _ _ _ _ _ _)
   | (with_reducible exact ih1 _ _ _ _ _ _ _ _ _ _ _ _)
   | (with_reducible exact ih2 _ _ _ _ _ _ _ _ _ _ _ _ _)
   | (with_reducible exact ih3 _ _ _ _ _ _ _ _ _ _ _ _ _ _)
   | (with_reducible exact ih4 _ _ _ _ _ _ _ _ _ _ _)
   | (with_reducible exact ih5 _ _ _ _ _ _ _ _ _ _ _ _)
   | (with_reducible exact ih6 _ _ _ _ _ _ _ _ _ _ _ _ _ _)
   | (with_reducible exact mapmakerlaw48_few.mono _ _ _ _)
   | (with_reducible exact mapmakerlaw48_lives.mono _)
   | (with_reducible exact traffic_Check.mono _ _)
   | (with_reducible exact traffic_Weights.mono _ _ _ _ _ _)
   | (with_reducible exact LeO.refl _)
   | (with_reducible exact LeO.none _)
   | (with_reducible refine LeO.ite ?_ ?_)
   | (with_reducible refine LeO.bind ?_ (fun _ => ?_))
   | exact ih0 _ _ _ _ _ _ _ _ _ _ _
   | exact ih1 _ _ _ _ _ _ _ _ _ _ _ _
   | exact ih2 _ _ _ _ _ _ _ _ _ _ _ _ _
   | exact ih3 _ _ _ _ _ _ _ _ _ _ _ _ _ _
   | exact ih4 _ _ _ _ _ _ _ _ _ _ _
   | exact ih5 _ _ _ _ _ _ _ _ _ _ _ _
   | exact ih6 _ _ _ _ _ _ _ _ _ _ _ _ _ _
   | exact mapmakerlaw48_few.mono _ _ _ _
   | exact mapmakerlaw48_lives.mono _
   | exact traffic_Check.mono _ _
   | exact traffic_Weights.mono _ _ _ _ _ _
   | exact LeO.none _
   | refine LeO.ite ?_ ?_
   | refine LeO.bind ?_ (fun _ => ?_)
set_option maxHeartbeats 8000000 in
set_option maxRecDepth 100000 in
theorem mapmakerlaw48_TrafficLast.calls (k : Nat) (A0_0 : Option Addr) (c0_0 : Nat) (l0_0 : List Int) (A0_1 : Option Addr) (c0_1 : Nat) (l0_1 : List (S64)) (A0_2 : Option Addr) (c0_2 : Nat) (l0_2 : List (S48)) (A1_0 : Option Addr) (c1_0 : Nat) (l1_0 : List (S43)) (A1_1 : Option Addr) (c1_1 : Nat) (l1_1 : List (S43)) (a1_2 : Int) (a2_0 : Int) (a2_1 : Int) (a2_2 : Int) (a2_3 : Int) (r : Bool) (w : World) (hr0_0 : Kd.C (Kd.int .i64) w A0_0 l0_0.length l0_0) (hc0_0 : l0_0.length ≤ c0_0) (hr0_1 : Kd.C k64 w A0_1 l0_1.length l0_1) (hc0_1 : l0_1.length ≤ c0_1) (hr0_2 : Kd.C k48 w A0_2 l0_2.length l0_2) (hc0_2 : l0_2.length ≤ c0_2) (hr1_0 : Kd.C k43 w A1_0 l1_0.length l1_0) (hc1_0 : l1_0.length ≤ c1_0) (hr1_1 : Kd.C k43 w A1_1 l1_1.length l1_1) (hc1_1 : l1_1.length ≤ c1_1) (h : mapmakerlaw48_TrafficLast.f k l0_0 l0_1 l0_2 l1_0 l1_1 a1_2 a2_0 a2_1 a2_2 a2_3 = some r) :
  Calls Try.prog 5 #[.agg #[.slice A0_0 l0_0.length c0_0, .slice A0_1 l0_1.length c0_1, .slice A0_2 l0_2.length c0_2], .agg #[.slice A1_0 l1_0.length c1_0, .slice A1_1 l1_1.length c1_1, .int .i64 a1_2], .agg #[.int .i64 a2_0, .int .i64 a2_1, .int .i64 a2_2, .int .i64 a2_3]] w fun e w' => e = .returned (.bool r) ∧ Below w.heap.size w w' := by
 have hu32 := Try.underlying32
 have hu41 := Try.underlying41
 have hu43 := Try.underlying43
 have HR0_0 := Aside0.mk hr0_0
 have HC0_0 := Aside0.mk hc0_0
 clear hr0_0 hc0_0
 have HR0_1 := Aside0.mk hr0_1
 have HC0_1 := Aside0.mk hc0_1
 clear hr0_1 hc0_1
 have HR0_2 := Aside0.mk hr0_2
 have HC0_2 := Aside0.mk hc0_2
 clear hr0_2 hc0_2
 have HR1_0 := Aside0.mk hr1_0
 have HC1_0 := Aside0.mk hc1_0
 clear hr1_0 hc1_0
 have HR1_1 := Aside0.mk hr1_1
 have HC1_1 := Aside0.mk hc1_1
 clear hr1_1 hc1_1
 have HB := Aside0.mk (Below.refl w.heap.size w)
 have H : ((mapmakerlaw48_few.f k l0_0 l0_1 l0_2).bind fun t261 => (if t261 = true then (mapmakerlaw48_TrafficLast.j0 k (decide ((l1_0.length : Int) > 40)) l0_0 l0_1 l0_2 l1_0 l1_1 a1_2 a2_0 a2_1 a2_2 a2_3) else (mapmakerlaw48_TrafficLast.j0 k true l0_0 l0_1 l0_2 l1_0 l1_1 a1_2 a2_0 a2_1 a2_2 a2_3))) = some r := h
 clear h
 have HC4 := Aside0.mk H
 clear H
 go_enter Try.func5, Try.ntmps5
 go_upto_region 1 with (first | ((with_reducible refine gate_dst (N := 3) rfl ?_); (try (refine gate_guard (by rfl) ?_; dsimp only)); refine box_event ?hg (N := 3) ?hd (cs := #[.slice A0_0 l0_0.length c0_0, .slice A0_1 l0_1.length c0_1, .slice A0_2 l0_2.length c0_2]) (t := 32) ?hr ?_; (case hd => rfl); (case hg => rfl); (case hr => first | (go_simp; done) | (go_simp; rfl)); intro gb258 hg w5 hbox hb; have n0_ := Aside0.mk (below_step (by repeat (first | (with_reducible first | exact HB.out | apply below_alloc | apply pw_below_drewN | apply below_drew1) | exact HB.out)) hb); have n1_ := Aside0.mk (hbox); have n2_ := Aside0.mk ((by rw [hg]; exact (below_size (by repeat (first | (with_reducible first | exact HB.out | apply below_alloc | apply pw_below_drewN | apply below_drew1) | exact HB.out))) : w.heap.size ≤ gb258)); have n3_ := n2_; clear HB; have HB := n0_; have BK258 := n1_; have GW258 := n2_; have GE258 := n3_; clear n0_ n1_ n2_ n3_ hb hbox hg) | ((with_reducible refine gate_dst (N := 4) rfl ?_); (try (refine gate_guard (by rfl) ?_; dsimp only)); refine box_event ?hg (N := 4) ?hd (cs := #[.slice A1_0 l1_0.length c1_0, .slice A1_1 l1_1.length c1_1, .int .i64 a1_2]) (t := 41) ?hr ?_; (case hd => rfl); (case hg => rfl); (case hr => first | (go_simp; done) | (go_simp; rfl)); intro gb259 hg w6 hbox hb; have n0_ := Aside0.mk (blk_below (by (with_reducible repeat first | apply blk_drewN | apply blk_drew | apply blk_alloc); exact BK258.out) hb); have n1_ := Aside0.mk (below_step (by repeat (first | (with_reducible first | exact HB.out | apply below_alloc | apply pw_below_drewN | apply below_drew1 | refine below_set ?_ GE258.out) | exact HB.out)) hb); have n2_ := Aside0.mk (hbox); have n3_ := Aside0.mk ((by rw [hg]; exact (below_size (by repeat (first | (with_reducible first | exact HB.out | apply below_alloc | apply pw_below_drewN | apply below_drew1 | refine below_set ?_ GE258.out) | exact HB.out))) : w.heap.size ≤ gb259)); have n4_ := n3_; have n5_ := Aside0.mk ((by rw [hg]; exact Nat.ne_of_lt (blk_lt (by (with_reducible repeat first | apply blk_drewN | apply blk_drew | apply blk_alloc); exact BK258.out)) : gb258 ≠ gb259)); have n6_ : Aside0 (gb259 ≠ gb258) := ⟨Ne.symm n5_.out⟩; clear BK258 HB; have BK258 := n0_; have HB := n1_; have BK259 := n2_; have GW259 := n3_; have GE259 := n4_; have NB258_259 := n5_; have NB259_258 := n6_; clear n0_ n1_ n2_ n3_ n4_ n5_ n6_ hb hbox hg) | ((with_reducible refine gate_dst (N := 5) rfl ?_); (try (refine gate_guard (by rfl) ?_; dsimp only)); refine box_event ?hg (N := 5) ?hd (cs := #[.int .i64 a2_0, .int .i64 a2_1, .int .i64 a2_2, .int .i64 a2_3]) (t := 43) ?hr ?_; (case hd => rfl); (case hg => rfl); (case hr => first | (go_simp; done) | (go_simp; rfl)); intro gb260 hg w7 hbox hb; have n0_ := Aside0.mk (blk_below (by (with_reducible repeat first | apply blk_drewN | apply blk_drew | apply blk_alloc); exact BK258.out) hb); have n1_ := Aside0.mk (blk_below (by (with_reducible repeat first | apply blk_drewN | apply blk_drew | apply blk_alloc); exact BK259.out) hb); have n2_ := Aside0.mk (below_step (by repeat (first | (with_reducible first | exact HB.out | apply below_alloc | apply pw_below_drewN | apply below_drew1 | refine below_set ?_ GE258.out | refine below_set ?_ GE259.out) | exact HB.out)) hb); have n3_ := Aside0.mk (hbox); have n4_ := Aside0.mk ((by rw [hg]; exact (below_size (by repeat (first | (with_reducible first | exact HB.out | apply below_alloc | apply pw_below_drewN | apply below_drew1 | refine below_set ?_ GE258.out | refine below_set ?_ GE259.out) | exact HB.out))) : w.heap.size ≤ gb260)); have n5_ := n4_; have n6_ := Aside0.mk ((by rw [hg]; exact Nat.ne_of_lt (blk_lt (by (with_reducible repeat first | apply blk_drewN | apply blk_drew | apply blk_alloc); exact BK258.out)) : gb258 ≠ gb260)); have n7_ : Aside0 (gb260 ≠ gb258) := ⟨Ne.symm n6_.out⟩; have n8_ := Aside0.mk ((by rw [hg]; exact Nat.ne_of_lt (blk_lt (by (with_reducible repeat first | apply blk_drewN | apply blk_drew | apply blk_alloc); exact BK259.out)) : gb259 ≠ gb260)); have n9_ : Aside0 (gb260 ≠ gb259) := ⟨Ne.symm n8_.out⟩; clear BK258 BK259 HB; have BK258 := n0_; have BK259 := n1_; have HB := n2_; have BK260 := n3_; have GW260 := n4_; have GE260 := n5_; have NB258_260 := n6_; have NB260_258 := n7_; have NB259_260 := n8_; have NB260_259 := n9_; clear n0_ n1_ n2_ n3_ n4_ n5_ n6_ n7_ n8_ n9_ hb hbox hg))
 repeat (go_quiet (first | ((with_reducible refine gate_dst (N := 3) rfl ?_); (try (refine gate_guard (by rfl) ?_; dsimp only)); refine box_event ?hg (N := 3) ?hd (cs := #[.slice A0_0 l0_0.length c0_0, .slice A0_1 l0_1.length c0_1, .slice A0_2 l0_2.length c0_2]) (t := 32) ?hr ?_; (case hd => rfl); (case hg => rfl); (case hr => first | (go_simp; done) | (go_simp; rfl)); intro gb258 hg w5 hbox hb; have n0_ := Aside0.mk (below_step (by repeat (first | (with_reducible first | exact HB.out | apply below_alloc | apply pw_below_drewN | apply below_drew1) | exact HB.out)) hb); have n1_ := Aside0.mk (hbox); have n2_ := Aside0.mk ((by rw [hg]; exact (below_size (by repeat (first | (with_reducible first | exact HB.out | apply below_alloc | apply pw_below_drewN | apply below_drew1) | exact HB.out))) : w.heap.size ≤ gb258)); have n3_ := n2_; clear HB; have HB := n0_; have BK258 := n1_; have GW258 := n2_; have GE258 := n3_; clear n0_ n1_ n2_ n3_ hb hbox hg) | ((with_reducible refine gate_dst (N := 4) rfl ?_); (try (refine gate_guard (by rfl) ?_; dsimp only)); refine box_event ?hg (N := 4) ?hd (cs := #[.slice A1_0 l1_0.length c1_0, .slice A1_1 l1_1.length c1_1, .int .i64 a1_2]) (t := 41) ?hr ?_; (case hd => rfl); (case hg => rfl); (case hr => first | (go_simp; done) | (go_simp; rfl)); intro gb259 hg w6 hbox hb; have n0_ := Aside0.mk (blk_below (by (with_reducible repeat first | apply blk_drewN | apply blk_drew | apply blk_alloc); exact BK258.out) hb); have n1_ := Aside0.mk (below_step (by repeat (first | (with_reducible first | exact HB.out | apply below_alloc | apply pw_below_drewN | apply below_drew1 | refine below_set ?_ GE258.out) | exact HB.out)) hb); have n2_ := Aside0.mk (hbox); have n3_ := Aside0.mk ((by rw [hg]; exact (below_size (by repeat (first | (with_reducible first | exact HB.out | apply below_alloc | apply pw_below_drewN | apply below_drew1 | refine below_set ?_ GE258.out) | exact HB.out))) : w.heap.size ≤ gb259)); have n4_ := n3_; have n5_ := Aside0.mk ((by rw [hg]; exact Nat.ne_of_lt (blk_lt (by (with_reducible repeat first | apply blk_drewN | apply blk_drew | apply blk_alloc); exact BK258.out)) : gb258 ≠ gb259)); have n6_ : Aside0 (gb259 ≠ gb258) := ⟨Ne.symm n5_.out⟩; clear BK258 HB; have BK258 := n0_; have HB := n1_; have BK259 := n2_; have GW259 := n3_; have GE259 := n4_; have NB258_259 := n5_; have NB259_258 := n6_; clear n0_ n1_ n2_ n3_ n4_ n5_ n6_ hb hbox hg) | ((with_reducible refine gate_dst (N := 5) rfl ?_); (try (refine gate_guard (by rfl) ?_; dsimp only)); refine box_event ?hg (N := 5) ?hd (cs := #[.int .i64 a2_0, .int .i64 a2_1, .int .i64 a2_2, .int .i64 a2_3]) (t := 43) ?hr ?_; (case hd => rfl); (case hg => rfl); (case hr => first | (go_simp; done) | (go_simp; rfl)); intro gb260 hg w7 hbox hb; have n0_ := Aside0.mk (blk_below (by (with_reducible repeat first | apply blk_drewN | apply blk_drew | apply blk_alloc); exact BK258.out) hb); have n1_ := Aside0.mk (blk_below (by (with_reducible repeat first | apply blk_drewN | apply blk_drew | apply blk_alloc); exact BK259.out) hb); have n2_ := Aside0.mk (below_step (by repeat (first | (with_reducible first | exact HB.out | apply below_alloc | apply pw_below_drewN | apply below_drew1 | refine below_set ?_ GE258.out | refine below_set ?_ GE259.out) | exact HB.out)) hb); have n3_ := Aside0.mk (hbox); have n4_ := Aside0.mk ((by rw [hg]; exact (below_size (by repeat (first | (with_reducible first | exact HB.out | apply below_alloc | apply pw_below_drewN | apply below_drew1 | refine below_set ?_ GE258.out | refine below_set ?_ GE259.out) | exact HB.out))) : w.heap.size ≤ gb260)); have n5_ := n4_; have n6_ := Aside0.mk ((by rw [hg]; exact Nat.ne_of_lt (blk_lt (by (with_reducible repeat first | apply blk_drewN | apply blk_drew | apply blk_alloc); exact BK258.out)) : gb258 ≠ gb260)); have n7_ : Aside0 (gb260 ≠ gb258) := ⟨Ne.symm n6_.out⟩; have n8_ := Aside0.mk ((by rw [hg]; exact Nat.ne_of_lt (blk_lt (by (with_reducible repeat first | apply blk_drewN | apply blk_drew | apply blk_alloc); exact BK259.out)) : gb259 ≠ gb260)); have n9_ : Aside0 (gb260 ≠ gb259) := ⟨Ne.symm n8_.out⟩; clear BK258 BK259 HB; have BK258 := n0_; have BK259 := n1_; have HB := n2_; have BK260 := n3_; have GW260 := n4_; have GE260 := n5_; have NB258_260 := n6_; have NB260_258 := n7_; have NB259_260 := n8_; have NB260_259 := n9_; clear n0_ n1_ n2_ n3_ n4_ n5_ n6_ n7_ n8_ n9_ hb hbox hg)); go_upto_region 1 with (first | ((with_reducible refine gate_dst (N := 3) rfl ?_); (try (refine gate_guard (by rfl) ?_; dsimp only)); refine box_event ?hg (N := 3) ?hd (cs := #[.slice A0_0 l0_0.length c0_0, .slice A0_1 l0_1.length c0_1, .slice A0_2 l0_2.length c0_2]) (t := 32) ?hr ?_; (case hd => rfl); (case hg => rfl); (case hr => first | (go_simp; done) | (go_simp; rfl)); intro gb258 hg w5 hbox hb; have n0_ := Aside0.mk (below_step (by repeat (first | (with_reducible first | exact HB.out | apply below_alloc | apply pw_below_drewN | apply below_drew1) | exact HB.out)) hb); have n1_ := Aside0.mk (hbox); have n2_ := Aside0.mk ((by rw [hg]; exact (below_size (by repeat (first | (with_reducible first | exact HB.out | apply below_alloc | apply pw_below_drewN | apply below_drew1) | exact HB.out))) : w.heap.size ≤ gb258)); have n3_ := n2_; clear HB; have HB := n0_; have BK258 := n1_; have GW258 := n2_; have GE258 := n3_; clear n0_ n1_ n2_ n3_ hb hbox hg) | ((with_reducible refine gate_dst (N := 4) rfl ?_); (try (refine gate_guard (by rfl) ?_; dsimp only)); refine box_event ?hg (N := 4) ?hd (cs := #[.slice A1_0 l1_0.length c1_0, .slice A1_1 l1_1.length c1_1, .int .i64 a1_2]) (t := 41) ?hr ?_; (case hd => rfl); (case hg => rfl); (case hr => first | (go_simp; done) | (go_simp; rfl)); intro gb259 hg w6 hbox hb; have n0_ := Aside0.mk (blk_below (by (with_reducible repeat first | apply blk_drewN | apply blk_drew | apply blk_alloc); exact BK258.out) hb); have n1_ := Aside0.mk (below_step (by repeat (first | (with_reducible first | exact HB.out | apply below_alloc | apply pw_below_drewN | apply below_drew1 | refine below_set ?_ GE258.out) | exact HB.out)) hb); have n2_ := Aside0.mk (hbox); have n3_ := Aside0.mk ((by rw [hg]; exact (below_size (by repeat (first | (with_reducible first | exact HB.out | apply below_alloc | apply pw_below_drewN | apply below_drew1 | refine below_set ?_ GE258.out) | exact HB.out))) : w.heap.size ≤ gb259)); have n4_ := n3_; have n5_ := Aside0.mk ((by rw [hg]; exact Nat.ne_of_lt (blk_lt (by (with_reducible repeat first | apply blk_drewN | apply blk_drew | apply blk_alloc); exact BK258.out)) : gb258 ≠ gb259)); have n6_ : Aside0 (gb259 ≠ gb258) := ⟨Ne.symm n5_.out⟩; clear BK258 HB; have BK258 := n0_; have HB := n1_; have BK259 := n2_; have GW259 := n3_; have GE259 := n4_; have NB258_259 := n5_; have NB259_258 := n6_; clear n0_ n1_ n2_ n3_ n4_ n5_ n6_ hb hbox hg) | ((with_reducible refine gate_dst (N := 5) rfl ?_); (try (refine gate_guard (by rfl) ?_; dsimp only)); refine box_event ?hg (N := 5) ?hd (cs := #[.int .i64 a2_0, .int .i64 a2_1, .int .i64 a2_2, .int .i64 a2_3]) (t := 43) ?hr ?_; (case hd => rfl); (case hg => rfl); (case hr => first | (go_simp; done) | (go_simp; rfl)); intro gb260 hg w7 hbox hb; have n0_ := Aside0.mk (blk_below (by (with_reducible repeat first | apply blk_drewN | apply blk_drew | apply blk_alloc); exact BK258.out) hb); have n1_ := Aside0.mk (blk_below (by (with_reducible repeat first | apply blk_drewN | apply blk_drew | apply blk_alloc); exact BK259.out) hb); have n2_ := Aside0.mk (below_step (by repeat (first | (with_reducible first | exact HB.out | apply below_alloc | apply pw_below_drewN | apply below_drew1 | refine below_set ?_ GE258.out | refine below_set ?_ GE259.out) | exact HB.out)) hb); have n3_ := Aside0.mk (hbox); have n4_ := Aside0.mk ((by rw [hg]; exact (below_size (by repeat (first | (with_reducible first | exact HB.out | apply below_alloc | apply pw_below_drewN | apply below_drew1 | refine below_set ?_ GE258.out | refine below_set ?_ GE259.out) | exact HB.out))) : w.heap.size ≤ gb260)); have n5_ := n4_; have n6_ := Aside0.mk ((by rw [hg]; exact Nat.ne_of_lt (blk_lt (by (with_reducible repeat first | apply blk_drewN | apply blk_drew | apply blk_alloc); exact BK258.out)) : gb258 ≠ gb260)); have n7_ : Aside0 (gb260 ≠ gb258) := ⟨Ne.symm n6_.out⟩; have n8_ := Aside0.mk ((by rw [hg]; exact Nat.ne_of_lt (blk_lt (by (with_reducible repeat first | apply blk_drewN | apply blk_drew | apply blk_alloc); exact BK259.out)) : gb259 ≠ gb260)); have n9_ : Aside0 (gb260 ≠ gb259) := ⟨Ne.symm n8_.out⟩; clear BK258 BK259 HB; have BK258 := n0_; have BK259 := n1_; have HB := n2_; have BK260 := n3_; have GW260 := n4_; have GE260 := n5_; have NB258_260 := n6_; have NB260_258 := n7_; have NB259_260 := n8_; have NB260_259 := n9_; clear n0_ n1_ n2_ n3_ n4_ n5_ n6_ n7_ n8_ n9_ hb hbox hg)))
 (try simp only [Act.put, List.setIfInBounds_toArray, List.set_cons_zero, List.set_cons_succ])
 go_cut [26] (fun v26 wc => ∃ (kq : Nat) (x26_3 : Bool), v26 = .bool x26_3 ∧ Aside0 (mapmakerlaw48_TrafficLast.j0 kq x26_3 l0_0 l0_1 l0_2 l1_0 l1_1 a1_2 a2_0 a2_1 a2_2 a2_3 = some r) ∧ Aside0 (kq ≤ k) ∧ Aside0 (wc.heap[gb258]? = some (.cells #[(.slice A0_0 l0_0.length c0_0), (.slice A0_1 l0_1.length c0_1), (.slice A0_2 l0_2.length c0_2)] 32 (0, 0))) ∧ Aside0 (wc.heap[gb259]? = some (.cells #[(.slice A1_0 l1_0.length c1_0), (.slice A1_1 l1_1.length c1_1), .int .i64 a1_2] 41 (0, 0))) ∧ Aside0 (wc.heap[gb260]? = some (.cells #[.int .i64 a2_0, .int .i64 a2_1, .int .i64 a2_2, .int .i64 a2_3] 43 (0, 0))) ∧ Aside0 (Below w.heap.size w wc))
 case first =>
  have H := HC4.out
  clear HC4
  replace H := Option.bind_eq_some_iff.mp H
  obtain ⟨t261, A80, H⟩ := H
  replace H : (if t261 = true then (mapmakerlaw48_TrafficLast.j0 k (decide ((l1_0.length : Int) > 40)) l0_0 l0_1 l0_2 l1_0 l1_1 a1_2 a2_0 a2_1 a2_2 a2_3) else (mapmakerlaw48_TrafficLast.j0 k true l0_0 l0_1 l0_2 l1_0 l1_1 a1_2 a2_0 a2_1 a2_2 a2_3)) = some r := H
  have A8 := Aside0.mk A80
  clear A80
  by_cases c9 : t261 = true
  ·subst c9
   have H1 : (mapmakerlaw48_TrafficLast.j0 k (decide ((l1_0.length : Int) > 40)) l0_0 l0_1 l0_2 l1_0 l1_1 a1_2 a2_0 a2_1 a2_2 a2_3) = some r := by rw [if_pos rfl] at H; exact H
   clear H
   have H := H1
   clear H1
   have H' := Aside0.mk H
   clear H
   have hnb10 := NB258_259.out
   have hnc10 := NB259_258.out
   have hnb11 := NB258_260.out
   have hnc11 := NB260_258.out
   have hcz12_0 : w7.cell? ⟨gb258, 0, none⟩ = some (.slice A0_0 l0_0.length c0_0) := (blk_cell BK258.out 0).trans rfl
   have hcz12_1 : w7.cell? ⟨gb258, 1, none⟩ = some (.slice A0_1 l0_1.length c0_1) := (blk_cell BK258.out 1).trans rfl
   have hcz12_2 : w7.cell? ⟨gb258, 2, none⟩ = some (.slice A0_2 l0_2.length c0_2) := (blk_cell BK258.out 2).trans rfl
   have hfz12_0 := blk_frozen BK258.out 0
   have hfz12_1 := blk_frozen BK258.out 1
   have hfz12_2 := blk_frozen BK258.out 2
   go_wp2_with (first | (go_at_call 11; (with_reducible refine (mapmakerlaw48_few.calls k _ _ l0_0 _ _ l0_1 _ _ l0_2 true _ ?side1 ?side2 ?side3 ?side4 ?side5 ?side6 A8.out).mono ?_); (case side1 => repeat (first | exact (Kd.C_below HR0_0.out HB.out) | (with_reducible refine Kd.C_alloc ?_ _) | (with_reducible refine Kd.C_drewN ?_ _) | (with_reducible refine Kd.C_drew ?_))); (case side2 => exact HC0_0.out); (case side3 => repeat (first | exact (Kd.C_below HR0_1.out HB.out) | (with_reducible refine Kd.C_alloc ?_ _) | (with_reducible refine Kd.C_drewN ?_ _) | (with_reducible refine Kd.C_drew ?_))); (case side4 => exact HC0_1.out); (case side5 => repeat (first | exact (Kd.C_below HR0_2.out HB.out) | (with_reducible refine Kd.C_alloc ?_ _) | (with_reducible refine Kd.C_drewN ?_ _) | (with_reducible refine Kd.C_drew ?_))); (case side6 => exact HC0_2.out); rintro e w13 ⟨rfl, hb⟩; have n0_ := Aside0.mk (blk_below (by (with_reducible repeat first | apply blk_drewN | apply blk_drew | apply blk_alloc); exact BK258.out) hb); have n1_ := Aside0.mk (blk_below (by (with_reducible repeat first | apply blk_drewN | apply blk_drew | apply blk_alloc); exact BK259.out) hb); have n2_ := Aside0.mk (blk_below (by (with_reducible repeat first | apply blk_drewN | apply blk_drew | apply blk_alloc); exact BK260.out) hb); have n3_ := Aside0.mk (below_step (by repeat (first | (with_reducible first | exact HB.out | apply below_alloc | apply pw_below_drewN | apply below_drew1 | refine below_set ?_ GE258.out | refine below_set ?_ GE259.out | refine below_set ?_ GE260.out) | exact HB.out)) hb); clear BK258 BK259 BK260 HB; have BK258 := n0_; have BK259 := n1_; have BK260 := n2_; have HB := n3_; clear n0_ n1_ n2_ n3_; (try clear hb); (try clear hb2); (try clear hk); (try clear hi); have hnb14 := NB259_260.out; have hnc14 := NB260_259.out; have hcz15_0 : w13.cell? ⟨gb259, 0, none⟩ = some (.slice A1_0 l1_0.length c1_0) := (blk_cell BK259.out 0).trans rfl; have hcz15_1 : w13.cell? ⟨gb259, 1, none⟩ = some (.slice A1_1 l1_1.length c1_1) := (blk_cell BK259.out 1).trans rfl; have hcz15_2 : w13.cell? ⟨gb259, 2, none⟩ = some (.int .i64 a1_2) := (blk_cell BK259.out 2).trans rfl; have hfz15_0 := blk_frozen BK259.out 0; have hfz15_1 := blk_frozen BK259.out 1; have hfz15_2 := blk_frozen BK259.out 2))
   repeat (go_quiet (first | (go_at_call 11; (with_reducible refine (mapmakerlaw48_few.calls k _ _ l0_0 _ _ l0_1 _ _ l0_2 true _ ?side1 ?side2 ?side3 ?side4 ?side5 ?side6 A8.out).mono ?_); (case side1 => repeat (first | exact (Kd.C_below HR0_0.out HB.out) | (with_reducible refine Kd.C_alloc ?_ _) | (with_reducible refine Kd.C_drewN ?_ _) | (with_reducible refine Kd.C_drew ?_))); (case side2 => exact HC0_0.out); (case side3 => repeat (first | exact (Kd.C_below HR0_1.out HB.out) | (with_reducible refine Kd.C_alloc ?_ _) | (with_reducible refine Kd.C_drewN ?_ _) | (with_reducible refine Kd.C_drew ?_))); (case side4 => exact HC0_1.out); (case side5 => repeat (first | exact (Kd.C_below HR0_2.out HB.out) | (with_reducible refine Kd.C_alloc ?_ _) | (with_reducible refine Kd.C_drewN ?_ _) | (with_reducible refine Kd.C_drew ?_))); (case side6 => exact HC0_2.out); rintro e w13 ⟨rfl, hb⟩; have n0_ := Aside0.mk (blk_below (by (with_reducible repeat first | apply blk_drewN | apply blk_drew | apply blk_alloc); exact BK258.out) hb); have n1_ := Aside0.mk (blk_below (by (with_reducible repeat first | apply blk_drewN | apply blk_drew | apply blk_alloc); exact BK259.out) hb); have n2_ := Aside0.mk (blk_below (by (with_reducible repeat first | apply blk_drewN | apply blk_drew | apply blk_alloc); exact BK260.out) hb); have n3_ := Aside0.mk (below_step (by repeat (first | (with_reducible first | exact HB.out | apply below_alloc | apply pw_below_drewN | apply below_drew1 | refine below_set ?_ GE258.out | refine below_set ?_ GE259.out | refine below_set ?_ GE260.out) | exact HB.out)) hb); clear BK258 BK259 BK260 HB; have BK258 := n0_; have BK259 := n1_; have BK260 := n2_; have HB := n3_; clear n0_ n1_ n2_ n3_; (try clear hb); (try clear hb2); (try clear hk); (try clear hi); have hnb14 := NB259_260.out; have hnc14 := NB260_259.out; have hcz15_0 : w13.cell? ⟨gb259, 0, none⟩ = some (.slice A1_0 l1_0.length c1_0) := (blk_cell BK259.out 0).trans rfl; have hcz15_1 : w13.cell? ⟨gb259, 1, none⟩ = some (.slice A1_1 l1_1.length c1_1) := (blk_cell BK259.out 1).trans rfl; have hcz15_2 : w13.cell? ⟨gb259, 2, none⟩ = some (.int .i64 a1_2) := (blk_cell BK259.out 2).trans rfl; have hfz15_0 := blk_frozen BK259.out 0; have hfz15_1 := blk_frozen BK259.out 1; have hfz15_2 := blk_frozen BK259.out 2)); try go_wp2_with (first | (go_at_call 11; (with_reducible refine (mapmakerlaw48_few.calls k _ _ l0_0 _ _ l0_1 _ _ l0_2 true _ ?side1 ?side2 ?side3 ?side4 ?side5 ?side6 A8.out).mono ?_); (case side1 => repeat (first | exact (Kd.C_below HR0_0.out HB.out) | (with_reducible refine Kd.C_alloc ?_ _) | (with_reducible refine Kd.C_drewN ?_ _) | (with_reducible refine Kd.C_drew ?_))); (case side2 => exact HC0_0.out); (case side3 => repeat (first | exact (Kd.C_below HR0_1.out HB.out) | (with_reducible refine Kd.C_alloc ?_ _) | (with_reducible refine Kd.C_drewN ?_ _) | (with_reducible refine Kd.C_drew ?_))); (case side4 => exact HC0_1.out); (case side5 => repeat (first | exact (Kd.C_below HR0_2.out HB.out) | (with_reducible refine Kd.C_alloc ?_ _) | (with_reducible refine Kd.C_drewN ?_ _) | (with_reducible refine Kd.C_drew ?_))); (case side6 => exact HC0_2.out); rintro e w13 ⟨rfl, hb⟩; have n0_ := Aside0.mk (blk_below (by (with_reducible repeat first | apply blk_drewN | apply blk_drew | apply blk_alloc); exact BK258.out) hb); have n1_ := Aside0.mk (blk_below (by (with_reducible repeat first | apply blk_drewN | apply blk_drew | apply blk_alloc); exact BK259.out) hb); have n2_ := Aside0.mk (blk_below (by (with_reducible repeat first | apply blk_drewN | apply blk_drew | apply blk_alloc); exact BK260.out) hb); have n3_ := Aside0.mk (below_step (by repeat (first | (with_reducible first | exact HB.out | apply below_alloc | apply pw_below_drewN | apply below_drew1 | refine below_set ?_ GE258.out | refine below_set ?_ GE259.out | refine below_set ?_ GE260.out) | exact HB.out)) hb); clear BK258 BK259 BK260 HB; have BK258 := n0_; have BK259 := n1_; have BK260 := n2_; have HB := n3_; clear n0_ n1_ n2_ n3_; (try clear hb); (try clear hb2); (try clear hk); (try clear hi); have hnb14 := NB259_260.out; have hnc14 := NB260_259.out; have hcz15_0 : w13.cell? ⟨gb259, 0, none⟩ = some (.slice A1_0 l1_0.length c1_0) := (blk_cell BK259.out 0).trans rfl; have hcz15_1 : w13.cell? ⟨gb259, 1, none⟩ = some (.slice A1_1 l1_1.length c1_1) := (blk_cell BK259.out 1).trans rfl; have hcz15_2 : w13.cell? ⟨gb259, 2, none⟩ = some (.int .i64 a1_2) := (blk_cell BK259.out 2).trans rfl; have hfz15_0 := blk_frozen BK259.out 0; have hfz15_1 := blk_frozen BK259.out 1; have hfz15_2 := blk_frozen BK259.out 2)))
   go_meet
   case rel => exact ⟨_, (decide ((l1_0.length : Int) > 40)), (by first | rfl | (simp; done) | (simp [*]; done)), H', ⟨by first | omega | exact Nat.le_refl _⟩, ⟨by (with_reducible repeat first | apply blk_drewN | apply blk_drew | apply blk_alloc); exact BK258.out⟩, ⟨by (with_reducible repeat first | apply blk_drewN | apply blk_drew | apply blk_alloc); exact BK259.out⟩, ⟨by (with_reducible repeat first | apply blk_drewN | apply blk_drew | apply blk_alloc); exact BK260.out⟩, ⟨by repeat (first | (with_reducible first | exact HB.out | apply below_alloc | apply pw_below_drewN | apply below_drew1 | refine below_set ?_ GE258.out | refine below_set ?_ GE259.out | refine below_set ?_ GE260.out) | exact HB.out)⟩⟩
  ·replace c9 := Bool.eq_false_iff.mpr c9
   subst c9
   have H1 : (mapmakerlaw48_TrafficLast.j0 k true l0_0 l0_1 l0_2 l1_0 l1_1 a1_2 a2_0 a2_1 a2_2 a2_3) = some r := by rw [if_neg (show ¬ (false = true) by decide)] at H; exact H
   clear H
   have H := H1
   clear H1
   have H' := Aside0.mk H
   clear H
   have hnb16 := NB258_259.out
   have hnc16 := NB259_258.out
   have hnb17 := NB258_260.out
   have hnc17 := NB260_258.out
   have hcz18_0 : w7.cell? ⟨gb258, 0, none⟩ = some (.slice A0_0 l0_0.length c0_0) := (blk_cell BK258.out 0).trans rfl
   have hcz18_1 : w7.cell? ⟨gb258, 1, none⟩ = some (.slice A0_1 l0_1.length c0_1) := (blk_cell BK258.out 1).trans rfl
   have hcz18_2 : w7.cell? ⟨gb258, 2, none⟩ = some (.slice A0_2 l0_2.length c0_2) := (blk_cell BK258.out 2).trans rfl
   have hfz18_0 := blk_frozen BK258.out 0
   have hfz18_1 := blk_frozen BK258.out 1
   have hfz18_2 := blk_frozen BK258.out 2
   go_wp2_with (first | (go_at_call 11; (with_reducible refine (mapmakerlaw48_few.calls k _ _ l0_0 _ _ l0_1 _ _ l0_2 false _ ?side1 ?side2 ?side3 ?side4 ?side5 ?side6 A8.out).mono ?_); (case side1 => repeat (first | exact (Kd.C_below HR0_0.out HB.out) | (with_reducible refine Kd.C_alloc ?_ _) | (with_reducible refine Kd.C_drewN ?_ _) | (with_reducible refine Kd.C_drew ?_))); (case side2 => exact HC0_0.out); (case side3 => repeat (first | exact (Kd.C_below HR0_1.out HB.out) | (with_reducible refine Kd.C_alloc ?_ _) | (with_reducible refine Kd.C_drewN ?_ _) | (with_reducible refine Kd.C_drew ?_))); (case side4 => exact HC0_1.out); (case side5 => repeat (first | exact (Kd.C_below HR0_2.out HB.out) | (with_reducible refine Kd.C_alloc ?_ _) | (with_reducible refine Kd.C_drewN ?_ _) | (with_reducible refine Kd.C_drew ?_))); (case side6 => exact HC0_2.out); rintro e w19 ⟨rfl, hb⟩; have n0_ := Aside0.mk (blk_below (by (with_reducible repeat first | apply blk_drewN | apply blk_drew | apply blk_alloc); exact BK258.out) hb); have n1_ := Aside0.mk (blk_below (by (with_reducible repeat first | apply blk_drewN | apply blk_drew | apply blk_alloc); exact BK259.out) hb); have n2_ := Aside0.mk (blk_below (by (with_reducible repeat first | apply blk_drewN | apply blk_drew | apply blk_alloc); exact BK260.out) hb); have n3_ := Aside0.mk (below_step (by repeat (first | (with_reducible first | exact HB.out | apply below_alloc | apply pw_below_drewN | apply below_drew1 | refine below_set ?_ GE258.out | refine below_set ?_ GE259.out | refine below_set ?_ GE260.out) | exact HB.out)) hb); clear BK258 BK259 BK260 HB; have BK258 := n0_; have BK259 := n1_; have BK260 := n2_; have HB := n3_; clear n0_ n1_ n2_ n3_; (try clear hb); (try clear hb2); (try clear hk); (try clear hi)))
   repeat (go_quiet (first | (go_at_call 11; (with_reducible refine (mapmakerlaw48_few.calls k _ _ l0_0 _ _ l0_1 _ _ l0_2 false _ ?side1 ?side2 ?side3 ?side4 ?side5 ?side6 A8.out).mono ?_); (case side1 => repeat (first | exact (Kd.C_below HR0_0.out HB.out) | (with_reducible refine Kd.C_alloc ?_ _) | (with_reducible refine Kd.C_drewN ?_ _) | (with_reducible refine Kd.C_drew ?_))); (case side2 => exact HC0_0.out); (case side3 => repeat (first | exact (Kd.C_below HR0_1.out HB.out) | (with_reducible refine Kd.C_alloc ?_ _) | (with_reducible refine Kd.C_drewN ?_ _) | (with_reducible refine Kd.C_drew ?_))); (case side4 => exact HC0_1.out); (case side5 => repeat (first | exact (Kd.C_below HR0_2.out HB.out) | (with_reducible refine Kd.C_alloc ?_ _) | (with_reducible refine Kd.C_drewN ?_ _) | (with_reducible refine Kd.C_drew ?_))); (case side6 => exact HC0_2.out); rintro e w19 ⟨rfl, hb⟩; have n0_ := Aside0.mk (blk_below (by (with_reducible repeat first | apply blk_drewN | apply blk_drew | apply blk_alloc); exact BK258.out) hb); have n1_ := Aside0.mk (blk_below (by (with_reducible repeat first | apply blk_drewN | apply blk_drew | apply blk_alloc); exact BK259.out) hb); have n2_ := Aside0.mk (blk_below (by (with_reducible repeat first | apply blk_drewN | apply blk_drew | apply blk_alloc); exact BK260.out) hb); have n3_ := Aside0.mk (below_step (by repeat (first | (with_reducible first | exact HB.out | apply below_alloc | apply pw_below_drewN | apply below_drew1 | refine below_set ?_ GE258.out | refine below_set ?_ GE259.out | refine below_set ?_ GE260.out) | exact HB.out)) hb); clear BK258 BK259 BK260 HB; have BK258 := n0_; have BK259 := n1_; have BK260 := n2_; have HB := n3_; clear n0_ n1_ n2_ n3_; (try clear hb); (try clear hb2); (try clear hk); (try clear hi))); try go_wp2_with (first | (go_at_call 11; (with_reducible refine (mapmakerlaw48_few.calls k _ _ l0_0 _ _ l0_1 _ _ l0_2 false _ ?side1 ?side2 ?side3 ?side4 ?side5 ?side6 A8.out).mono ?_); (case side1 => repeat (first | exact (Kd.C_below HR0_0.out HB.out) | (with_reducible refine Kd.C_alloc ?_ _) | (with_reducible refine Kd.C_drewN ?_ _) | (with_reducible refine Kd.C_drew ?_))); (case side2 => exact HC0_0.out); (case side3 => repeat (first | exact (Kd.C_below HR0_1.out HB.out) | (with_reducible refine Kd.C_alloc ?_ _) | (with_reducible refine Kd.C_drewN ?_ _) | (with_reducible refine Kd.C_drew ?_))); (case side4 => exact HC0_1.out); (case side5 => repeat (first | exact (Kd.C_below HR0_2.out HB.out) | (with_reducible refine Kd.C_alloc ?_ _) | (with_reducible refine Kd.C_drewN ?_ _) | (with_reducible refine Kd.C_drew ?_))); (case side6 => exact HC0_2.out); rintro e w19 ⟨rfl, hb⟩; have n0_ := Aside0.mk (blk_below (by (with_reducible repeat first | apply blk_drewN | apply blk_drew | apply blk_alloc); exact BK258.out) hb); have n1_ := Aside0.mk (blk_below (by (with_reducible repeat first | apply blk_drewN | apply blk_drew | apply blk_alloc); exact BK259.out) hb); have n2_ := Aside0.mk (blk_below (by (with_reducible repeat first | apply blk_drewN | apply blk_drew | apply blk_alloc); exact BK260.out) hb); have n3_ := Aside0.mk (below_step (by repeat (first | (with_reducible first | exact HB.out | apply below_alloc | apply pw_below_drewN | apply below_drew1 | refine below_set ?_ GE258.out | refine below_set ?_ GE259.out | refine below_set ?_ GE260.out) | exact HB.out)) hb); clear BK258 BK259 BK260 HB; have BK258 := n0_; have BK259 := n1_; have BK260 := n2_; have HB := n3_; clear n0_ n1_ n2_ n3_; (try clear hb); (try clear hb2); (try clear hk); (try clear hi))))
   go_meet
   case rel => exact ⟨_, (true), (by first | rfl | (simp; done) | (simp [*]; done)), H', ⟨by first | omega | exact Nat.le_refl _⟩, ⟨by (with_reducible repeat first | apply blk_drewN | apply blk_drew | apply blk_alloc); exact BK258.out⟩, ⟨by (with_reducible repeat first | apply blk_drewN | apply blk_drew | apply blk_alloc); exact BK259.out⟩, ⟨by (with_reducible repeat first | apply blk_drewN | apply blk_drew | apply blk_alloc); exact BK260.out⟩, ⟨by repeat (first | (with_reducible first | exact HB.out | apply below_alloc | apply pw_below_drewN | apply below_drew1 | refine below_set ?_ GE258.out | refine below_set ?_ GE259.out | refine below_set ?_ GE260.out) | exact HB.out)⟩⟩
 case rest =>
  clear HC4
  try clear c1
  try clear p2
  try clear c5
  try clear c9
  try clear c10
  try clear c11
  try clear c14
  try clear c16
  try clear c17
  try clear hcz12_0
  try clear hcz12_1
  try clear hcz12_2
  try clear hcz15_0
  try clear hcz15_1
  try clear hcz15_2
  try clear hcz18_0
  try clear hcz18_1
  try clear hcz18_2
  try clear hfz12_0
  try clear hfz12_1
  try clear hfz12_2
  try clear hfz15_0
  try clear hfz15_1
  try clear hfz15_2
  try clear hfz18_0
  try clear hfz18_1
  try clear hfz18_2
  obtain ⟨kq, x26_3, rfl, HA, HJ3, BK258, BK259, BK260, HB⟩ := hcut
  cases kq with
  | zero => exact absurd HA.out (by simp [mapmakerlaw48_TrafficLast.j0])
  | succ kj3 =>
   have H := HA.out
   clear HA
   simp only [mapmakerlaw48_TrafficLast.j0] at H
   by_cases c20 : x26_3 = true
   ·subst c20
    have H1 : ((mapmakerlaw48_lives.f kj3).bind fun t262 => (some t262)) = some r := by rw [if_pos rfl] at H; exact H
    clear H
    have H := H1
    clear H1
    replace H := Option.bind_eq_some_iff.mp H
    obtain ⟨t262, A210, H⟩ := H
    replace H : (some t262) = some r := H
    have A21 := Aside0.mk A210
    clear A210
    obtain rfl := Option.some.inj H
    go_wp2_with (first | (go_at_call 8; (with_reducible refine (mapmakerlaw48_lives.calls kj3  t262 _ A21.out).mono ?_); rintro e w22 ⟨rfl, hb⟩; have n0_ := Aside0.mk (blk_below (by (with_reducible repeat first | apply blk_drewN | apply blk_drew | apply blk_alloc); exact BK258.out) hb); have n1_ := Aside0.mk (blk_below (by (with_reducible repeat first | apply blk_drewN | apply blk_drew | apply blk_alloc); exact BK259.out) hb); have n2_ := Aside0.mk (blk_below (by (with_reducible repeat first | apply blk_drewN | apply blk_drew | apply blk_alloc); exact BK260.out) hb); have n3_ := Aside0.mk (below_step (by repeat (first | (with_reducible first | exact HB.out | apply below_alloc | apply pw_below_drewN | apply below_drew1 | refine below_set ?_ GE258.out | refine below_set ?_ GE259.out | refine below_set ?_ GE260.out) | exact HB.out)) hb); clear BK258 BK259 BK260 HB; have BK258 := n0_; have BK259 := n1_; have BK260 := n2_; have HB := n3_; clear n0_ n1_ n2_ n3_; (try clear hb); (try clear hb2); (try clear hk); (try clear hi)))
    repeat (go_quiet (first | (go_at_call 8; (with_reducible refine (mapmakerlaw48_lives.calls kj3  t262 _ A21.out).mono ?_); rintro e w22 ⟨rfl, hb⟩; have n0_ := Aside0.mk (blk_below (by (with_reducible repeat first | apply blk_drewN | apply blk_drew | apply blk_alloc); exact BK258.out) hb); have n1_ := Aside0.mk (blk_below (by (with_reducible repeat first | apply blk_drewN | apply blk_drew | apply blk_alloc); exact BK259.out) hb); have n2_ := Aside0.mk (blk_below (by (with_reducible repeat first | apply blk_drewN | apply blk_drew | apply blk_alloc); exact BK260.out) hb); have n3_ := Aside0.mk (below_step (by repeat (first | (with_reducible first | exact HB.out | apply below_alloc | apply pw_below_drewN | apply below_drew1 | refine below_set ?_ GE258.out | refine below_set ?_ GE259.out | refine below_set ?_ GE260.out) | exact HB.out)) hb); clear BK258 BK259 BK260 HB; have BK258 := n0_; have BK259 := n1_; have BK260 := n2_; have HB := n3_; clear n0_ n1_ n2_ n3_; (try clear hb); (try clear hb2); (try clear hk); (try clear hi))); try go_wp2_with (first | (go_at_call 8; (with_reducible refine (mapmakerlaw48_lives.calls kj3  t262 _ A21.out).mono ?_); rintro e w22 ⟨rfl, hb⟩; have n0_ := Aside0.mk (blk_below (by (with_reducible repeat first | apply blk_drewN | apply blk_drew | apply blk_alloc); exact BK258.out) hb); have n1_ := Aside0.mk (blk_below (by (with_reducible repeat first | apply blk_drewN | apply blk_drew | apply blk_alloc); exact BK259.out) hb); have n2_ := Aside0.mk (blk_below (by (with_reducible repeat first | apply blk_drewN | apply blk_drew | apply blk_alloc); exact BK260.out) hb); have n3_ := Aside0.mk (below_step (by repeat (first | (with_reducible first | exact HB.out | apply below_alloc | apply pw_below_drewN | apply below_drew1 | refine below_set ?_ GE258.out | refine below_set ?_ GE259.out | refine below_set ?_ GE260.out) | exact HB.out)) hb); clear BK258 BK259 BK260 HB; have BK258 := n0_; have BK259 := n1_; have BK260 := n2_; have HB := n3_; clear n0_ n1_ n2_ n3_; (try clear hb); (try clear hb2); (try clear hk); (try clear hi))))
    go_ret
    exact ⟨by first | rfl | (simp [errW_none, errW_some] <;> rfl) | (simp [*, errW_none, errW_some] <;> rfl), by repeat (first | (with_reducible first | exact HB.out | apply below_alloc | apply pw_below_drewN | apply below_drew1 | refine below_set ?_ GE258.out | refine below_set ?_ GE259.out | refine below_set ?_ GE260.out) | exact HB.out)⟩
   ·replace c20 := Bool.eq_false_iff.mpr c20
    subst c20
    have H1 : ((traffic_Weights.f kj3 l0_0 l0_1 l0_2 l1_0 a1_2).bind fun bt263 => (if bt263.2 = 0 then ((traffic_Check.f kj3 (([(⟨a2_0, a2_1, a2_2, a2_3⟩ : S43)] : List (S43)))).bind fun t270 => (mapmakerlaw48_TrafficLast.j1 kj3 bt263.1 (t270 != 0) l0_0 l0_1 l0_2 l1_0 l1_1 a1_2 a2_0 a2_1 a2_2 a2_3)) else (mapmakerlaw48_TrafficLast.j1 kj3 bt263.1 true l0_0 l0_1 l0_2 l1_0 l1_1 a1_2 a2_0 a2_1 a2_2 a2_3))) = some r := by rw [if_neg (show ¬ (false = true) by decide)] at H; exact H
    clear H
    have H := H1
    clear H1
    replace H := Option.bind_eq_some_iff.mp H
    obtain ⟨⟨t263, t266⟩, A230, H⟩ := H
    replace H : (if t266 = 0 then ((traffic_Check.f kj3 (([(⟨a2_0, a2_1, a2_2, a2_3⟩ : S43)] : List (S43)))).bind fun t270 => (mapmakerlaw48_TrafficLast.j1 kj3 t263 (t270 != 0) l0_0 l0_1 l0_2 l1_0 l1_1 a1_2 a2_0 a2_1 a2_2 a2_3)) else (mapmakerlaw48_TrafficLast.j1 kj3 t263 true l0_0 l0_1 l0_2 l1_0 l1_1 a1_2 a2_0 a2_1 a2_2 a2_3)) = some r := H
    have A23 := Aside0.mk A230
    clear A230
    have HC24 := Aside0.mk H
    clear H
    have hnb25 := NB258_259.out
    have hnc25 := NB259_258.out
    have hnb26 := NB258_260.out
    have hnc26 := NB260_258.out
    have hcz27_0 : wc.cell? ⟨gb258, 0, none⟩ = some (.slice A0_0 l0_0.length c0_0) := (blk_cell BK258.out 0).trans rfl
    have hcz27_1 : wc.cell? ⟨gb258, 1, none⟩ = some (.slice A0_1 l0_1.length c0_1) := (blk_cell BK258.out 1).trans rfl
    have hcz27_2 : wc.cell? ⟨gb258, 2, none⟩ = some (.slice A0_2 l0_2.length c0_2) := (blk_cell BK258.out 2).trans rfl
    have hfz27_0 := blk_frozen BK258.out 0
    have hfz27_1 := blk_frozen BK258.out 1
    have hfz27_2 := blk_frozen BK258.out 2
    have hnb28 := NB259_260.out
    have hnc28 := NB260_259.out
    have hcz29_0 : wc.cell? ⟨gb259, 0, none⟩ = some (.slice A1_0 l1_0.length c1_0) := (blk_cell BK259.out 0).trans rfl
    have hcz29_1 : wc.cell? ⟨gb259, 1, none⟩ = some (.slice A1_1 l1_1.length c1_1) := (blk_cell BK259.out 1).trans rfl
    have hcz29_2 : wc.cell? ⟨gb259, 2, none⟩ = some (.int .i64 a1_2) := (blk_cell BK259.out 2).trans rfl
    have hfz29_0 := blk_frozen BK259.out 0
    have hfz29_1 := blk_frozen BK259.out 1
    have hfz29_2 := blk_frozen BK259.out 2
    go_upto_region 4 with (first | (go_at_call 12; (with_reducible refine (traffic_Weights.calls kj3 _ _ l0_0 _ _ l0_1 _ _ l0_2 _ _ l1_0 a1_2 t263 t266 _ ?side1 ?side2 ?side3 ?side4 ?side5 ?side6 ?side7 ?side8 A23.out).mono ?_); (case side1 => repeat (first | exact (Kd.C_below HR0_0.out HB.out) | (with_reducible refine Kd.C_alloc ?_ _) | (with_reducible refine Kd.C_drewN ?_ _) | (with_reducible refine Kd.C_drew ?_))); (case side2 => exact HC0_0.out); (case side3 => repeat (first | exact (Kd.C_below HR0_1.out HB.out) | (with_reducible refine Kd.C_alloc ?_ _) | (with_reducible refine Kd.C_drewN ?_ _) | (with_reducible refine Kd.C_drew ?_))); (case side4 => exact HC0_1.out); (case side5 => repeat (first | exact (Kd.C_below HR0_2.out HB.out) | (with_reducible refine Kd.C_alloc ?_ _) | (with_reducible refine Kd.C_drewN ?_ _) | (with_reducible refine Kd.C_drew ?_))); (case side6 => exact HC0_2.out); (case side7 => repeat (first | exact (Kd.C_below HR1_0.out HB.out) | (with_reducible refine Kd.C_alloc ?_ _) | (with_reducible refine Kd.C_drewN ?_ _) | (with_reducible refine Kd.C_drew ?_))); (case side8 => exact HC1_0.out); rintro e w30 ⟨v264, rfl, ho0, hb⟩; have n0_ := Aside0.mk (Kd.R_lower ho0 (below_size (by repeat (first | (with_reducible first | exact HB.out | apply below_alloc | apply pw_below_drewN | apply below_drew1 | refine below_set ?_ GE258.out | refine below_set ?_ GE259.out | refine below_set ?_ GE260.out) | exact HB.out)))); have n1_ := Aside0.mk (blk_below (by (with_reducible repeat first | apply blk_drewN | apply blk_drew | apply blk_alloc); exact BK258.out) hb); have n2_ := Aside0.mk (blk_below (by (with_reducible repeat first | apply blk_drewN | apply blk_drew | apply blk_alloc); exact BK259.out) hb); have n3_ := Aside0.mk (blk_below (by (with_reducible repeat first | apply blk_drewN | apply blk_drew | apply blk_alloc); exact BK260.out) hb); have n4_ := Aside0.mk (below_step (by repeat (first | (with_reducible first | exact HB.out | apply below_alloc | apply pw_below_drewN | apply below_drew1 | refine below_set ?_ GE258.out | refine below_set ?_ GE259.out | refine below_set ?_ GE260.out) | exact HB.out)) hb); clear BK258 BK259 BK260 HB; have HO265 := n0_; have BK258 := n1_; have BK259 := n2_; have BK260 := n3_; have HB := n4_; clear n0_ n1_ n2_ n3_ n4_; (try clear hb); (try clear hb2); (try clear hk); (try clear hi); (try clear ho0)))
    repeat (go_quiet (first | (go_at_call 12; (with_reducible refine (traffic_Weights.calls kj3 _ _ l0_0 _ _ l0_1 _ _ l0_2 _ _ l1_0 a1_2 t263 t266 _ ?side1 ?side2 ?side3 ?side4 ?side5 ?side6 ?side7 ?side8 A23.out).mono ?_); (case side1 => repeat (first | exact (Kd.C_below HR0_0.out HB.out) | (with_reducible refine Kd.C_alloc ?_ _) | (with_reducible refine Kd.C_drewN ?_ _) | (with_reducible refine Kd.C_drew ?_))); (case side2 => exact HC0_0.out); (case side3 => repeat (first | exact (Kd.C_below HR0_1.out HB.out) | (with_reducible refine Kd.C_alloc ?_ _) | (with_reducible refine Kd.C_drewN ?_ _) | (with_reducible refine Kd.C_drew ?_))); (case side4 => exact HC0_1.out); (case side5 => repeat (first | exact (Kd.C_below HR0_2.out HB.out) | (with_reducible refine Kd.C_alloc ?_ _) | (with_reducible refine Kd.C_drewN ?_ _) | (with_reducible refine Kd.C_drew ?_))); (case side6 => exact HC0_2.out); (case side7 => repeat (first | exact (Kd.C_below HR1_0.out HB.out) | (with_reducible refine Kd.C_alloc ?_ _) | (with_reducible refine Kd.C_drewN ?_ _) | (with_reducible refine Kd.C_drew ?_))); (case side8 => exact HC1_0.out); rintro e w30 ⟨v264, rfl, ho0, hb⟩; have n0_ := Aside0.mk (Kd.R_lower ho0 (below_size (by repeat (first | (with_reducible first | exact HB.out | apply below_alloc | apply pw_below_drewN | apply below_drew1 | refine below_set ?_ GE258.out | refine below_set ?_ GE259.out | refine below_set ?_ GE260.out) | exact HB.out)))); have n1_ := Aside0.mk (blk_below (by (with_reducible repeat first | apply blk_drewN | apply blk_drew | apply blk_alloc); exact BK258.out) hb); have n2_ := Aside0.mk (blk_below (by (with_reducible repeat first | apply blk_drewN | apply blk_drew | apply blk_alloc); exact BK259.out) hb); have n3_ := Aside0.mk (blk_below (by (with_reducible repeat first | apply blk_drewN | apply blk_drew | apply blk_alloc); exact BK260.out) hb); have n4_ := Aside0.mk (below_step (by repeat (first | (with_reducible first | exact HB.out | apply below_alloc | apply pw_below_drewN | apply below_drew1 | refine below_set ?_ GE258.out | refine below_set ?_ GE259.out | refine below_set ?_ GE260.out) | exact HB.out)) hb); clear BK258 BK259 BK260 HB; have HO265 := n0_; have BK258 := n1_; have BK259 := n2_; have BK260 := n3_; have HB := n4_; clear n0_ n1_ n2_ n3_ n4_; (try clear hb); (try clear hb2); (try clear hk); (try clear hi); (try clear ho0))); go_upto_region 4 with (first | (go_at_call 12; (with_reducible refine (traffic_Weights.calls kj3 _ _ l0_0 _ _ l0_1 _ _ l0_2 _ _ l1_0 a1_2 t263 t266 _ ?side1 ?side2 ?side3 ?side4 ?side5 ?side6 ?side7 ?side8 A23.out).mono ?_); (case side1 => repeat (first | exact (Kd.C_below HR0_0.out HB.out) | (with_reducible refine Kd.C_alloc ?_ _) | (with_reducible refine Kd.C_drewN ?_ _) | (with_reducible refine Kd.C_drew ?_))); (case side2 => exact HC0_0.out); (case side3 => repeat (first | exact (Kd.C_below HR0_1.out HB.out) | (with_reducible refine Kd.C_alloc ?_ _) | (with_reducible refine Kd.C_drewN ?_ _) | (with_reducible refine Kd.C_drew ?_))); (case side4 => exact HC0_1.out); (case side5 => repeat (first | exact (Kd.C_below HR0_2.out HB.out) | (with_reducible refine Kd.C_alloc ?_ _) | (with_reducible refine Kd.C_drewN ?_ _) | (with_reducible refine Kd.C_drew ?_))); (case side6 => exact HC0_2.out); (case side7 => repeat (first | exact (Kd.C_below HR1_0.out HB.out) | (with_reducible refine Kd.C_alloc ?_ _) | (with_reducible refine Kd.C_drewN ?_ _) | (with_reducible refine Kd.C_drew ?_))); (case side8 => exact HC1_0.out); rintro e w30 ⟨v264, rfl, ho0, hb⟩; have n0_ := Aside0.mk (Kd.R_lower ho0 (below_size (by repeat (first | (with_reducible first | exact HB.out | apply below_alloc | apply pw_below_drewN | apply below_drew1 | refine below_set ?_ GE258.out | refine below_set ?_ GE259.out | refine below_set ?_ GE260.out) | exact HB.out)))); have n1_ := Aside0.mk (blk_below (by (with_reducible repeat first | apply blk_drewN | apply blk_drew | apply blk_alloc); exact BK258.out) hb); have n2_ := Aside0.mk (blk_below (by (with_reducible repeat first | apply blk_drewN | apply blk_drew | apply blk_alloc); exact BK259.out) hb); have n3_ := Aside0.mk (blk_below (by (with_reducible repeat first | apply blk_drewN | apply blk_drew | apply blk_alloc); exact BK260.out) hb); have n4_ := Aside0.mk (below_step (by repeat (first | (with_reducible first | exact HB.out | apply below_alloc | apply pw_below_drewN | apply below_drew1 | refine below_set ?_ GE258.out | refine below_set ?_ GE259.out | refine below_set ?_ GE260.out) | exact HB.out)) hb); clear BK258 BK259 BK260 HB; have HO265 := n0_; have BK258 := n1_; have BK259 := n2_; have BK260 := n3_; have HB := n4_; clear n0_ n1_ n2_ n3_ n4_; (try clear hb); (try clear hb2); (try clear hk); (try clear hi); (try clear ho0))))
    (try simp only [Act.put, List.setIfInBounds_toArray, List.set_cons_zero, List.set_cons_succ])
    go_cut [44] (fun v44 wc => ∃ (kq : Nat) (x44_23 : Bool), v44 = .bool x44_23 ∧ Aside0 (mapmakerlaw48_TrafficLast.j1 kq t263 x44_23 l0_0 l0_1 l0_2 l1_0 l1_1 a1_2 a2_0 a2_1 a2_2 a2_3 = some r) ∧ Aside0 (kq ≤ kj3) ∧ Aside0 (Kd.R (Kd.int .i64) 3 wc w.heap.size (fun _ => True) v264 t263) ∧ Aside0 (wc.heap[gb258]? = some (.cells #[(.slice A0_0 l0_0.length c0_0), (.slice A0_1 l0_1.length c0_1), (.slice A0_2 l0_2.length c0_2)] 32 (0, 0))) ∧ Aside0 (wc.heap[gb259]? = some (.cells #[(.slice A1_0 l1_0.length c1_0), (.slice A1_1 l1_1.length c1_1), .int .i64 a1_2] 41 (0, 0))) ∧ Aside0 (wc.heap[gb260]? = some (.cells #[.int .i64 a2_0, .int .i64 a2_1, .int .i64 a2_2, .int .i64 a2_3] 43 (0, 0))) ∧ Aside0 (Below w.heap.size w wc))
    case first =>
     have H := HC24.out
     clear HC24
     by_cases c31 : t266 = 0
     ·rw [if_pos c31] at H
      have c31b0 : (t266 == 0) = true := beq_iff_eq.mpr c31
      have c31b1 : (t266 != 0) = false := bne_eq_false_iff_eq.mpr c31
      clear c31
      (first | rw [c31b0] | (simp only [i64_w, i32_w]; rw [c31b0]) | skip)
      obtain ⟨y267, hy267⟩ : ∃ y_ : List (S43), y_ = (([(⟨a2_0, a2_1, a2_2, a2_3⟩ : S43)] : List (S43))) := ⟨_, rfl⟩
      replace H : ((traffic_Check.f kj3 y267).bind fun t270 => (mapmakerlaw48_TrafficLast.j1 kj3 t263 (t270 != 0) l0_0 l0_1 l0_2 l1_0 l1_1 a1_2 a2_0 a2_1 a2_2 a2_3)) = some r := by first | (rw [hy267]; with_reducible exact H) | (have H2_ := (Option.bind_some _ _).symm.trans H; rw [hy267]; with_reducible exact H2_) | (have H2_ := (Option.bind_some _ _).symm.trans H; with_reducible exact H2_) | with_reducible exact H | (rw [hy267]; exact H) | exact H
      have Ny267 := Aside0.mk hy267
      clear hy267
      replace H := Option.bind_eq_some_iff.mp H
      obtain ⟨t270, A320, H⟩ := H
      replace H : (mapmakerlaw48_TrafficLast.j1 kj3 t263 (t270 != 0) l0_0 l0_1 l0_2 l1_0 l1_1 a1_2 a2_0 a2_1 a2_2 a2_3) = some r := H
      have A32 := Aside0.mk A320
      clear A320
      have H' := Aside0.mk H
      clear H
      have hnb33 := NB260_258.out
      have hnc33 := NB258_260.out
      have hnb34 := NB260_259.out
      have hnc34 := NB259_260.out
      have hcz35_0 : w30.cell? ⟨gb260, 0, none⟩ = some (.int .i64 a2_0) := (blk_cell BK260.out 0).trans rfl
      have hcz35_1 : w30.cell? ⟨gb260, 1, none⟩ = some (.int .i64 a2_1) := (blk_cell BK260.out 1).trans rfl
      have hcz35_2 : w30.cell? ⟨gb260, 2, none⟩ = some (.int .i64 a2_2) := (blk_cell BK260.out 2).trans rfl
      have hcz35_3 : w30.cell? ⟨gb260, 3, none⟩ = some (.int .i64 a2_3) := (blk_cell BK260.out 3).trans rfl
      have hfz35_0 := blk_frozen BK260.out 0
      have hfz35_1 := blk_frozen BK260.out 1
      have hfz35_2 := blk_frozen BK260.out 2
      have hfz35_3 := blk_frozen BK260.out 3
      go_wp2_with (first | ((with_reducible refine gate_dst (N := 41) rfl ?_); (try (refine gate_guard (by rfl) ?_; dsimp only)); refine Kd.R_lit k43 _ 43 ?hg (N := 41) ?hd (xs := ([(⟨a2_0, a2_1, a2_2, a2_3⟩ : S43)] : List (S43))) (inner := [.int .i64 a2_0, .int .i64 a2_1, .int .i64 a2_2, .int .i64 a2_3]) (ok := fun _ => True) (okp := fun _ => True) ?hr ?hp (fun _ hk => hk) trivial (Below.refl _ _) (Nat.le_refl _) (by simp) ?_; (case hd => rfl); (case hg => rfl); (case hr => first | (go_simp; done) | (go_simp; rfl)); (case hp => exact (Reps.c4 (show Kd.M k43 _ _ _ (⟨a2_0, a2_1, a2_2, a2_3⟩ : S43) [.int .i64 a2_0, .int .i64 a2_1, .int .i64 a2_2, .int .i64 a2_3] from (k43_mkM _ _ _ (⟨a2_0, a2_1, a2_2, a2_3⟩ : S43) )) (Reps.none _ _))); intro v268 w36 ho37 hb hg_ hnew_; clear hg_ hnew_; (first | rw [← Ny267.out] at ho37 | (simp only [Int.reduceToNat] at ho37; rw [← Ny267.out] at ho37)); have n0_ := Aside0.mk (Kd.R_below (by (with_reducible repeat (first | apply Kd.R_alloc | apply Kd.R_drewN | apply Kd.R_drew)); exact HO265.out) hb); have n1_ := Aside0.mk (Kd.R_lower (Kd.R_newB ho37 (by (with_reducible repeat first | apply blk_drewN | apply blk_drew | apply blk_alloc); exact BK260.out)) (below_size (by repeat (first | (with_reducible first | exact HB.out | apply below_alloc | apply pw_below_drewN | apply below_drew1 | refine below_set ?_ GE258.out | refine below_set ?_ GE259.out | refine below_set ?_ GE260.out) | exact HB.out)))); have n2_ := Aside0.mk (blk_below (by (with_reducible repeat first | apply blk_drewN | apply blk_drew | apply blk_alloc); exact BK258.out) hb); have n3_ := Aside0.mk (blk_below (by (with_reducible repeat first | apply blk_drewN | apply blk_drew | apply blk_alloc); exact BK259.out) hb); have n4_ := Aside0.mk (blk_below (by (with_reducible repeat first | apply blk_drewN | apply blk_drew | apply blk_alloc); exact BK260.out) hb); have n5_ := Aside0.mk (below_step (by repeat (first | (with_reducible first | exact HB.out | apply below_alloc | apply pw_below_drewN | apply below_drew1 | refine below_set ?_ GE258.out | refine below_set ?_ GE259.out | refine below_set ?_ GE260.out) | exact HB.out)) hb); clear HO265 BK258 BK259 BK260 HB; have HO265 := n0_; have HO269 := n1_; have BK258 := n2_; have BK259 := n3_; have BK260 := n4_; have HB := n5_; clear n0_ n1_ n2_ n3_ n4_ n5_ hb ho37; obtain ⟨Ao38, co38, eo38⟩ := Kd.R_slice HO269.out; subst eo38) | (go_at_call 9; (with_reducible refine (traffic_Check.calls kj3 _ _ y267 t270 _ ?side1 ?side2 A32.out).mono ?_); (case side1 => repeat (first | exact (Kd.R_reads' HO269.out).2.2 | (with_reducible refine Kd.C_alloc ?_ _) | (with_reducible refine Kd.C_drewN ?_ _) | (with_reducible refine Kd.C_drew ?_))); (case side2 => exact (Kd.R_reads' HO269.out).2.1); rintro e w39 ⟨rfl, hb⟩; have n0_ := Aside0.mk (Kd.R_below (by (with_reducible repeat (first | apply Kd.R_alloc | apply Kd.R_drewN | apply Kd.R_drew)); exact HO265.out) hb); have n1_ := Aside0.mk (Kd.R_below (by (with_reducible repeat (first | apply Kd.R_alloc | apply Kd.R_drewN | apply Kd.R_drew)); exact HO269.out) hb); have n2_ := Aside0.mk (blk_below (by (with_reducible repeat first | apply blk_drewN | apply blk_drew | apply blk_alloc); exact BK258.out) hb); have n3_ := Aside0.mk (blk_below (by (with_reducible repeat first | apply blk_drewN | apply blk_drew | apply blk_alloc); exact BK259.out) hb); have n4_ := Aside0.mk (blk_below (by (with_reducible repeat first | apply blk_drewN | apply blk_drew | apply blk_alloc); exact BK260.out) hb); have n5_ := Aside0.mk (below_step (by repeat (first | (with_reducible first | exact HB.out | apply below_alloc | apply pw_below_drewN | apply below_drew1 | refine below_set ?_ GE258.out | refine below_set ?_ GE259.out | refine below_set ?_ GE260.out) | exact HB.out)) hb); clear HO265 HO269 BK258 BK259 BK260 HB; have HO265 := n0_; have HO269 := n1_; have BK258 := n2_; have BK259 := n3_; have BK260 := n4_; have HB := n5_; clear n0_ n1_ n2_ n3_ n4_ n5_; (try clear hb); (try clear hb2); (try clear hk); (try clear hi)))
      repeat (go_quiet (first | ((with_reducible refine gate_dst (N := 41) rfl ?_); (try (refine gate_guard (by rfl) ?_; dsimp only)); refine Kd.R_lit k43 _ 43 ?hg (N := 41) ?hd (xs := ([(⟨a2_0, a2_1, a2_2, a2_3⟩ : S43)] : List (S43))) (inner := [.int .i64 a2_0, .int .i64 a2_1, .int .i64 a2_2, .int .i64 a2_3]) (ok := fun _ => True) (okp := fun _ => True) ?hr ?hp (fun _ hk => hk) trivial (Below.refl _ _) (Nat.le_refl _) (by simp) ?_; (case hd => rfl); (case hg => rfl); (case hr => first | (go_simp; done) | (go_simp; rfl)); (case hp => exact (Reps.c4 (show Kd.M k43 _ _ _ (⟨a2_0, a2_1, a2_2, a2_3⟩ : S43) [.int .i64 a2_0, .int .i64 a2_1, .int .i64 a2_2, .int .i64 a2_3] from (k43_mkM _ _ _ (⟨a2_0, a2_1, a2_2, a2_3⟩ : S43) )) (Reps.none _ _))); intro v268 w36 ho37 hb hg_ hnew_; clear hg_ hnew_; (first | rw [← Ny267.out] at ho37 | (simp only [Int.reduceToNat] at ho37; rw [← Ny267.out] at ho37)); have n0_ := Aside0.mk (Kd.R_below (by (with_reducible repeat (first | apply Kd.R_alloc | apply Kd.R_drewN | apply Kd.R_drew)); exact HO265.out) hb); have n1_ := Aside0.mk (Kd.R_lower (Kd.R_newB ho37 (by (with_reducible repeat first | apply blk_drewN | apply blk_drew | apply blk_alloc); exact BK260.out)) (below_size (by repeat (first | (with_reducible first | exact HB.out | apply below_alloc | apply pw_below_drewN | apply below_drew1 | refine below_set ?_ GE258.out | refine below_set ?_ GE259.out | refine below_set ?_ GE260.out) | exact HB.out)))); have n2_ := Aside0.mk (blk_below (by (with_reducible repeat first | apply blk_drewN | apply blk_drew | apply blk_alloc); exact BK258.out) hb); have n3_ := Aside0.mk (blk_below (by (with_reducible repeat first | apply blk_drewN | apply blk_drew | apply blk_alloc); exact BK259.out) hb); have n4_ := Aside0.mk (blk_below (by (with_reducible repeat first | apply blk_drewN | apply blk_drew | apply blk_alloc); exact BK260.out) hb); have n5_ := Aside0.mk (below_step (by repeat (first | (with_reducible first | exact HB.out | apply below_alloc | apply pw_below_drewN | apply below_drew1 | refine below_set ?_ GE258.out | refine below_set ?_ GE259.out | refine below_set ?_ GE260.out) | exact HB.out)) hb); clear HO265 BK258 BK259 BK260 HB; have HO265 := n0_; have HO269 := n1_; have BK258 := n2_; have BK259 := n3_; have BK260 := n4_; have HB := n5_; clear n0_ n1_ n2_ n3_ n4_ n5_ hb ho37; obtain ⟨Ao38, co38, eo38⟩ := Kd.R_slice HO269.out; subst eo38) | (go_at_call 9; (with_reducible refine (traffic_Check.calls kj3 _ _ y267 t270 _ ?side1 ?side2 A32.out).mono ?_); (case side1 => repeat (first | exact (Kd.R_reads' HO269.out).2.2 | (with_reducible refine Kd.C_alloc ?_ _) | (with_reducible refine Kd.C_drewN ?_ _) | (with_reducible refine Kd.C_drew ?_))); (case side2 => exact (Kd.R_reads' HO269.out).2.1); rintro e w39 ⟨rfl, hb⟩; have n0_ := Aside0.mk (Kd.R_below (by (with_reducible repeat (first | apply Kd.R_alloc | apply Kd.R_drewN | apply Kd.R_drew)); exact HO265.out) hb); have n1_ := Aside0.mk (Kd.R_below (by (with_reducible repeat (first | apply Kd.R_alloc | apply Kd.R_drewN | apply Kd.R_drew)); exact HO269.out) hb); have n2_ := Aside0.mk (blk_below (by (with_reducible repeat first | apply blk_drewN | apply blk_drew | apply blk_alloc); exact BK258.out) hb); have n3_ := Aside0.mk (blk_below (by (with_reducible repeat first | apply blk_drewN | apply blk_drew | apply blk_alloc); exact BK259.out) hb); have n4_ := Aside0.mk (blk_below (by (with_reducible repeat first | apply blk_drewN | apply blk_drew | apply blk_alloc); exact BK260.out) hb); have n5_ := Aside0.mk (below_step (by repeat (first | (with_reducible first | exact HB.out | apply below_alloc | apply pw_below_drewN | apply below_drew1 | refine below_set ?_ GE258.out | refine below_set ?_ GE259.out | refine below_set ?_ GE260.out) | exact HB.out)) hb); clear HO265 HO269 BK258 BK259 BK260 HB; have HO265 := n0_; have HO269 := n1_; have BK258 := n2_; have BK259 := n3_; have BK260 := n4_; have HB := n5_; clear n0_ n1_ n2_ n3_ n4_ n5_; (try clear hb); (try clear hb2); (try clear hk); (try clear hi))); try go_wp2_with (first | ((with_reducible refine gate_dst (N := 41) rfl ?_); (try (refine gate_guard (by rfl) ?_; dsimp only)); refine Kd.R_lit k43 _ 43 ?hg (N := 41) ?hd (xs := ([(⟨a2_0, a2_1, a2_2, a2_3⟩ : S43)] : List (S43))) (inner := [.int .i64 a2_0, .int .i64 a2_1, .int .i64 a2_2, .int .i64 a2_3]) (ok := fun _ => True) (okp := fun _ => True) ?hr ?hp (fun _ hk => hk) trivial (Below.refl _ _) (Nat.le_refl _) (by simp) ?_; (case hd => rfl); (case hg => rfl); (case hr => first | (go_simp; done) | (go_simp; rfl)); (case hp => exact (Reps.c4 (show Kd.M k43 _ _ _ (⟨a2_0, a2_1, a2_2, a2_3⟩ : S43) [.int .i64 a2_0, .int .i64 a2_1, .int .i64 a2_2, .int .i64 a2_3] from (k43_mkM _ _ _ (⟨a2_0, a2_1, a2_2, a2_3⟩ : S43) )) (Reps.none _ _))); intro v268 w36 ho37 hb hg_ hnew_; clear hg_ hnew_; (first | rw [← Ny267.out] at ho37 | (simp only [Int.reduceToNat] at ho37; rw [← Ny267.out] at ho37)); have n0_ := Aside0.mk (Kd.R_below (by (with_reducible repeat (first | apply Kd.R_alloc | apply Kd.R_drewN | apply Kd.R_drew)); exact HO265.out) hb); have n1_ := Aside0.mk (Kd.R_lower (Kd.R_newB ho37 (by (with_reducible repeat first | apply blk_drewN | apply blk_drew | apply blk_alloc); exact BK260.out)) (below_size (by repeat (first | (with_reducible first | exact HB.out | apply below_alloc | apply pw_below_drewN | apply below_drew1 | refine below_set ?_ GE258.out | refine below_set ?_ GE259.out | refine below_set ?_ GE260.out) | exact HB.out)))); have n2_ := Aside0.mk (blk_below (by (with_reducible repeat first | apply blk_drewN | apply blk_drew | apply blk_alloc); exact BK258.out) hb); have n3_ := Aside0.mk (blk_below (by (with_reducible repeat first | apply blk_drewN | apply blk_drew | apply blk_alloc); exact BK259.out) hb); have n4_ := Aside0.mk (blk_below (by (with_reducible repeat first | apply blk_drewN | apply blk_drew | apply blk_alloc); exact BK260.out) hb); have n5_ := Aside0.mk (below_step (by repeat (first | (with_reducible first | exact HB.out | apply below_alloc | apply pw_below_drewN | apply below_drew1 | refine below_set ?_ GE258.out | refine below_set ?_ GE259.out | refine below_set ?_ GE260.out) | exact HB.out)) hb); clear HO265 BK258 BK259 BK260 HB; have HO265 := n0_; have HO269 := n1_; have BK258 := n2_; have BK259 := n3_; have BK260 := n4_; have HB := n5_; clear n0_ n1_ n2_ n3_ n4_ n5_ hb ho37; obtain ⟨Ao38, co38, eo38⟩ := Kd.R_slice HO269.out; subst eo38) | (go_at_call 9; (with_reducible refine (traffic_Check.calls kj3 _ _ y267 t270 _ ?side1 ?side2 A32.out).mono ?_); (case side1 => repeat (first | exact (Kd.R_reads' HO269.out).2.2 | (with_reducible refine Kd.C_alloc ?_ _) | (with_reducible refine Kd.C_drewN ?_ _) | (with_reducible refine Kd.C_drew ?_))); (case side2 => exact (Kd.R_reads' HO269.out).2.1); rintro e w39 ⟨rfl, hb⟩; have n0_ := Aside0.mk (Kd.R_below (by (with_reducible repeat (first | apply Kd.R_alloc | apply Kd.R_drewN | apply Kd.R_drew)); exact HO265.out) hb); have n1_ := Aside0.mk (Kd.R_below (by (with_reducible repeat (first | apply Kd.R_alloc | apply Kd.R_drewN | apply Kd.R_drew)); exact HO269.out) hb); have n2_ := Aside0.mk (blk_below (by (with_reducible repeat first | apply blk_drewN | apply blk_drew | apply blk_alloc); exact BK258.out) hb); have n3_ := Aside0.mk (blk_below (by (with_reducible repeat first | apply blk_drewN | apply blk_drew | apply blk_alloc); exact BK259.out) hb); have n4_ := Aside0.mk (blk_below (by (with_reducible repeat first | apply blk_drewN | apply blk_drew | apply blk_alloc); exact BK260.out) hb); have n5_ := Aside0.mk (below_step (by repeat (first | (with_reducible first | exact HB.out | apply below_alloc | apply pw_below_drewN | apply below_drew1 | refine below_set ?_ GE258.out | refine below_set ?_ GE259.out | refine below_set ?_ GE260.out) | exact HB.out)) hb); clear HO265 HO269 BK258 BK259 BK260 HB; have HO265 := n0_; have HO269 := n1_; have BK258 := n2_; have BK259 := n3_; have BK260 := n4_; have HB := n5_; clear n0_ n1_ n2_ n3_ n4_ n5_; (try clear hb); (try clear hb2); (try clear hk); (try clear hi))))
      go_meet
      case rel => exact ⟨_, ((t270 != 0)), (by first | rfl | (simp; done) | (simp [*]; done)), H', ⟨by have := HJ3.out; first | omega | exact Nat.le_refl _⟩, ⟨by (with_reducible repeat (first | apply Kd.R_alloc | apply Kd.R_drewN | apply Kd.R_drew)); exact HO265.out⟩, ⟨by (with_reducible repeat first | apply blk_drewN | apply blk_drew | apply blk_alloc); exact BK258.out⟩, ⟨by (with_reducible repeat first | apply blk_drewN | apply blk_drew | apply blk_alloc); exact BK259.out⟩, ⟨by (with_reducible repeat first | apply blk_drewN | apply blk_drew | apply blk_alloc); exact BK260.out⟩, ⟨by repeat (first | (with_reducible first | exact HB.out | apply below_alloc | apply pw_below_drewN | apply below_drew1 | refine below_set ?_ GE258.out | refine below_set ?_ GE259.out | refine below_set ?_ GE260.out) | exact HB.out)⟩⟩
     ·rw [if_neg c31] at H
      have c31b0 : (t266 == 0) = false := beq_eq_false_iff_ne.mpr c31
      have c31b1 : (t266 != 0) = true := bne_iff_ne.mpr c31
      (first | rw [c31b0] | (simp only [i64_w, i32_w]; rw [c31b0]) | skip)
      have H' := Aside0.mk H
      clear H
      go_wp2
      repeat (go_quiet (fail); try go_wp2)
      go_meet
      case rel => exact ⟨_, (true), (by first | rfl | (simp; done) | (simp [*]; done)), H', ⟨by have := HJ3.out; first | omega | exact Nat.le_refl _⟩, ⟨by (with_reducible repeat (first | apply Kd.R_alloc | apply Kd.R_drewN | apply Kd.R_drew)); exact HO265.out⟩, ⟨by (with_reducible repeat first | apply blk_drewN | apply blk_drew | apply blk_alloc); exact BK258.out⟩, ⟨by (with_reducible repeat first | apply blk_drewN | apply blk_drew | apply blk_alloc); exact BK259.out⟩, ⟨by (with_reducible repeat first | apply blk_drewN | apply blk_drew | apply blk_alloc); exact BK260.out⟩, ⟨by repeat (first | (with_reducible first | exact HB.out | apply below_alloc | apply pw_below_drewN | apply below_drew1 | refine below_set ?_ GE258.out | refine below_set ?_ GE259.out | refine below_set ?_ GE260.out) | exact HB.out)⟩⟩
    case rest =>
     clear HC24
     try clear c1
     try clear c2
     try clear p2
     try clear c3
     try clear c4
     try clear c5
     try clear c9
     try clear c10
     try clear c11
     try clear c14
     try clear c16
     try clear c17
     try clear c20
     try clear c25
     try clear c26
     try clear c28
     try clear c31
     try clear c31b0
     try clear c31b1
     try clear c33
     try clear c34
     try clear hcz12_0
     try clear hcz12_1
     try clear hcz12_2
     try clear hcz15_0
     try clear hcz15_1
     try clear hcz15_2
     try clear hcz18_0
     try clear hcz18_1
     try clear hcz18_2
     try clear hcz27_0
     try clear hcz27_1
     try clear hcz27_2
     try clear hcz29_0
     try clear hcz29_1
     try clear hcz29_2
     try clear hcz35_0
     try clear hcz35_1
     try clear hcz35_2
     try clear hcz35_3
     try clear hfz12_0
     try clear hfz12_1
     try clear hfz12_2
     try clear hfz15_0
     try clear hfz15_1
     try clear hfz15_2
     try clear hfz18_0
     try clear hfz18_1
     try clear hfz18_2
     try clear hfz27_0
     try clear hfz27_1
     try clear hfz27_2
     try clear hfz29_0
     try clear hfz29_1
     try clear hfz29_2
     try clear hfz35_0
     try clear hfz35_1
     try clear hfz35_2
     try clear hfz35_3
     try clear p2
     obtain ⟨kq, x44_23, rfl, HA, HJ23, HO_7, BK258, BK259, BK260, HB⟩ := hcut
     cases kq with
     | zero => exact absurd HA.out (by simp [mapmakerlaw48_TrafficLast.j1])
     | succ kj23 =>
      have H := HA.out
      clear HA
      simp only [mapmakerlaw48_TrafficLast.j1] at H
      by_cases c40 : x44_23 = true
      ·subst c40
       have H1 : ((mapmakerlaw48_lives.f kj23).bind fun t271 => (some t271)) = some r := by rw [if_pos rfl] at H; exact H
       clear H
       have H := H1
       clear H1
       replace H := Option.bind_eq_some_iff.mp H
       obtain ⟨t271, A410, H⟩ := H
       replace H : (some t271) = some r := H
       have A41 := Aside0.mk A410
       clear A410
       obtain rfl := Option.some.inj H
       go_wp2_with (first | (go_at_call 8; (with_reducible refine (mapmakerlaw48_lives.calls kj23  t271 _ A41.out).mono ?_); rintro e w42 ⟨rfl, hb⟩; have n0_ := Aside0.mk (Kd.R_below (by (with_reducible repeat (first | apply Kd.R_alloc | apply Kd.R_drewN | apply Kd.R_drew)); exact HO_7.out) hb); have n1_ := Aside0.mk (blk_below (by (with_reducible repeat first | apply blk_drewN | apply blk_drew | apply blk_alloc); exact BK258.out) hb); have n2_ := Aside0.mk (blk_below (by (with_reducible repeat first | apply blk_drewN | apply blk_drew | apply blk_alloc); exact BK259.out) hb); have n3_ := Aside0.mk (blk_below (by (with_reducible repeat first | apply blk_drewN | apply blk_drew | apply blk_alloc); exact BK260.out) hb); have n4_ := Aside0.mk (below_step (by repeat (first | (with_reducible first | exact HB.out | apply below_alloc | apply pw_below_drewN | apply below_drew1 | refine below_set ?_ GE258.out | refine below_set ?_ GE259.out | refine below_set ?_ GE260.out) | exact HB.out)) hb); clear HO_7 BK258 BK259 BK260 HB; have HO_7 := n0_; have BK258 := n1_; have BK259 := n2_; have BK260 := n3_; have HB := n4_; clear n0_ n1_ n2_ n3_ n4_; (try clear hb); (try clear hb2); (try clear hk); (try clear hi)))
       repeat (go_quiet (first | (go_at_call 8; (with_reducible refine (mapmakerlaw48_lives.calls kj23  t271 _ A41.out).mono ?_); rintro e w42 ⟨rfl, hb⟩; have n0_ := Aside0.mk (Kd.R_below (by (with_reducible repeat (first | apply Kd.R_alloc | apply Kd.R_drewN | apply Kd.R_drew)); exact HO_7.out) hb); have n1_ := Aside0.mk (blk_below (by (with_reducible repeat first | apply blk_drewN | apply blk_drew | apply blk_alloc); exact BK258.out) hb); have n2_ := Aside0.mk (blk_below (by (with_reducible repeat first | apply blk_drewN | apply blk_drew | apply blk_alloc); exact BK259.out) hb); have n3_ := Aside0.mk (blk_below (by (with_reducible repeat first | apply blk_drewN | apply blk_drew | apply blk_alloc); exact BK260.out) hb); have n4_ := Aside0.mk (below_step (by repeat (first | (with_reducible first | exact HB.out | apply below_alloc | apply pw_below_drewN | apply below_drew1 | refine below_set ?_ GE258.out | refine below_set ?_ GE259.out | refine below_set ?_ GE260.out) | exact HB.out)) hb); clear HO_7 BK258 BK259 BK260 HB; have HO_7 := n0_; have BK258 := n1_; have BK259 := n2_; have BK260 := n3_; have HB := n4_; clear n0_ n1_ n2_ n3_ n4_; (try clear hb); (try clear hb2); (try clear hk); (try clear hi))); try go_wp2_with (first | (go_at_call 8; (with_reducible refine (mapmakerlaw48_lives.calls kj23  t271 _ A41.out).mono ?_); rintro e w42 ⟨rfl, hb⟩; have n0_ := Aside0.mk (Kd.R_below (by (with_reducible repeat (first | apply Kd.R_alloc | apply Kd.R_drewN | apply Kd.R_drew)); exact HO_7.out) hb); have n1_ := Aside0.mk (blk_below (by (with_reducible repeat first | apply blk_drewN | apply blk_drew | apply blk_alloc); exact BK258.out) hb); have n2_ := Aside0.mk (blk_below (by (with_reducible repeat first | apply blk_drewN | apply blk_drew | apply blk_alloc); exact BK259.out) hb); have n3_ := Aside0.mk (blk_below (by (with_reducible repeat first | apply blk_drewN | apply blk_drew | apply blk_alloc); exact BK260.out) hb); have n4_ := Aside0.mk (below_step (by repeat (first | (with_reducible first | exact HB.out | apply below_alloc | apply pw_below_drewN | apply below_drew1 | refine below_set ?_ GE258.out | refine below_set ?_ GE259.out | refine below_set ?_ GE260.out) | exact HB.out)) hb); clear HO_7 BK258 BK259 BK260 HB; have HO_7 := n0_; have BK258 := n1_; have BK259 := n2_; have BK260 := n3_; have HB := n4_; clear n0_ n1_ n2_ n3_ n4_; (try clear hb); (try clear hb2); (try clear hk); (try clear hi))))
       go_ret
       exact ⟨by first | rfl | (simp [errW_none, errW_some] <;> rfl) | (simp [*, errW_none, errW_some] <;> rfl), by repeat (first | (with_reducible first | exact HB.out | apply below_alloc | apply pw_below_drewN | apply below_drew1 | refine below_set ?_ GE258.out | refine below_set ?_ GE259.out | refine below_set ?_ GE260.out) | exact HB.out)⟩
      ·replace c40 := Bool.eq_false_iff.mpr c40
       subst c40
       have H1 : (mapmakerlaw48_TrafficLast.l0 kj23 t263 ([] : List (S43)) 0 l0_0 l0_1 l0_2 l1_0 l1_1 a1_2 a2_0 a2_1 a2_2 a2_3) = some r := by rw [if_neg (show ¬ (false = true) by decide)] at H; exact H
       clear H
       have H := H1
       clear H1
       have H' := Aside0.mk H
       clear H
       go_wp2
       repeat (go_quiet (fail); try go_wp2)
       go_loopg [9, 10] kj23 (fun kq v9 v10 w' => ∃ (x9_3 : List (S43)) (x10_3 : Int), v10 = .int .i64 x10_3 ∧ Aside0 (mapmakerlaw48_TrafficLast.l0 kq t263 x9_3 x10_3 l0_0 l0_1 l0_2 l1_0 l1_1 a1_2 a2_0 a2_1 a2_2 a2_3 = some r) ∧ Aside0 (kq ≤ kj23) ∧ Aside0 (Kd.R (Kd.int .i64) 3 w' w.heap.size (fun _ => True) v264 t263) ∧ Aside0 (Kd.R k43 43 w' w.heap.size (fun k_ => k_ ≠ gb260) v9 x9_3) ∧ Aside0 (w'.heap[gb258]? = some (.cells #[(.slice A0_0 l0_0.length c0_0), (.slice A0_1 l0_1.length c0_1), (.slice A0_2 l0_2.length c0_2)] 32 (0, 0))) ∧ Aside0 (w'.heap[gb259]? = some (.cells #[(.slice A1_0 l1_0.length c1_0), (.slice A1_1 l1_1.length c1_1), .int .i64 a1_2] 41 (0, 0))) ∧ Aside0 (w'.heap[gb260]? = some (.cells #[.int .i64 a2_0, .int .i64 a2_1, .int .i64 a2_2, .int .i64 a2_3] 43 (0, 0))) ∧ Aside0 (Below w.heap.size w w'))
       case atStart => exact ⟨(([] : List (S43))), (0), (by first | rfl | (simp; done) | (simp [*]; done)), H', ⟨Nat.le_refl _⟩, ⟨by (with_reducible repeat (first | apply Kd.R_alloc | apply Kd.R_drewN | apply Kd.R_drew)); exact HO_7.out⟩, ⟨by first | exact Kd.R_nil _ _ _ _ _ | exact Kd.N_nil _ _ _ _ _ | exact Kd.V_nil _ _ _ _ _ | exact Kd.Q_nil _ _ _ _ _ | exact Kd.S_nil _ _ _ _ _⟩, ⟨by (with_reducible repeat first | apply blk_drewN | apply blk_drew | apply blk_alloc); exact BK258.out⟩, ⟨by (with_reducible repeat first | apply blk_drewN | apply blk_drew | apply blk_alloc); exact BK259.out⟩, ⟨by (with_reducible repeat first | apply blk_drewN | apply blk_drew | apply blk_alloc); exact BK260.out⟩, ⟨by repeat (first | (with_reducible first | exact HB.out | apply below_alloc | apply pw_below_drewN | apply below_drew1 | refine below_set ?_ GE258.out | refine below_set ?_ GE259.out | refine below_set ?_ GE260.out) | exact HB.out)⟩⟩
       case round =>
        clear H'
        try clear c1
        try clear c2
        try clear p2
        try clear c3
        try clear c4
        try clear c5
        try clear c9
        try clear c10
        try clear c11
        try clear c14
        try clear c16
        try clear c17
        try clear c20
        try clear c25
        try clear c26
        try clear c28
        try clear c31
        try clear c31b0
        try clear c31b1
        try clear c33
        try clear c34
        try clear c40
        try clear hcz12_0
        try clear hcz12_1
        try clear hcz12_2
        try clear hcz15_0
        try clear hcz15_1
        try clear hcz15_2
        try clear hcz18_0
        try clear hcz18_1
        try clear hcz18_2
        try clear hcz27_0
        try clear hcz27_1
        try clear hcz27_2
        try clear hcz29_0
        try clear hcz29_1
        try clear hcz29_2
        try clear hcz35_0
        try clear hcz35_1
        try clear hcz35_2
        try clear hcz35_3
        try clear hfz12_0
        try clear hfz12_1
        try clear hfz12_2
        try clear hfz15_0
        try clear hfz15_1
        try clear hfz15_2
        try clear hfz18_0
        try clear hfz18_1
        try clear hfz18_2
        try clear hfz27_0
        try clear hfz27_1
        try clear hfz27_2
        try clear hfz29_0
        try clear hfz29_1
        try clear hfz29_2
        try clear hfz35_0
        try clear hfz35_1
        try clear hfz35_2
        try clear hfz35_3
        try clear p2
        obtain ⟨x9_3, x10_3, rfl, HA, HK3, HO_7, HO_9, BK258, BK259, BK260, HB⟩ := hrel
        cases gk with
        | zero => exact absurd HA.out (by simp [mapmakerlaw48_TrafficLast.l0])
        | succ k3 =>
         have H := HA.out
         clear HA
         simp only [mapmakerlaw48_TrafficLast.l0] at H
         by_cases c43 : x10_3 < (l1_0.length : Int)
         ·rw [if_pos c43] at H
          have c43b0 : decide (x10_3 < (l1_0.length : Int)) = true := decide_eq_true c43
          clear c43
          by_cases c44 : 0 ≤ x10_3
          ·rw [if_pos c44] at H
           have c44b0 : decide (0 ≤ x10_3) = true := decide_eq_true c44
           clear c44
           by_cases c45 : x9_3.length < 4398046511104
           ·rw [if_pos c45] at H
            have LMc45 := Aside0.mk c45
            clear c45
            obtain ⟨y273, hy273⟩ : ∃ y_ : List (S43), y_ = (x9_3 ++ [(⟨(rd_T43 l1_0 x10_3).f0, (rd_T43 l1_0 x10_3).f1, (rd_T43 l1_0 x10_3).f2, (rd_T43 l1_0 x10_3).f3⟩ : S43)]) := ⟨_, rfl⟩
            replace H : (mapmakerlaw48_TrafficLast.l0 k3 t263 y273 (wrap64 (x10_3 + 1)) l0_0 l0_1 l0_2 l1_0 l1_1 a1_2 a2_0 a2_1 a2_2 a2_3) = some r := by first | (rw [hy273]; with_reducible exact H) | (have H2_ := (Option.bind_some _ _).symm.trans H; rw [hy273]; with_reducible exact H2_) | (have H2_ := (Option.bind_some _ _).symm.trans H; with_reducible exact H2_) | with_reducible exact H | (rw [hy273]; exact H) | exact H
            have Ny273 := Aside0.mk hy273
            clear hy273
            have H' := Aside0.mk H
            clear H
            have hnb46 := NB259_258.out
            have hnc46 := NB258_259.out
            have hnb47 := NB259_260.out
            have hnc47 := NB260_259.out
            have hcz48_0 : wr.cell? ⟨gb259, 0, none⟩ = some (.slice A1_0 l1_0.length c1_0) := (blk_cell BK259.out 0).trans rfl
            have hcz48_1 : wr.cell? ⟨gb259, 1, none⟩ = some (.slice A1_1 l1_1.length c1_1) := (blk_cell BK259.out 1).trans rfl
            have hcz48_2 : wr.cell? ⟨gb259, 2, none⟩ = some (.int .i64 a1_2) := (blk_cell BK259.out 2).trans rfl
            have hfz48_0 := blk_frozen BK259.out 0
            have hfz48_1 := blk_frozen BK259.out 1
            have hfz48_2 := blk_frozen BK259.out 2
            have p272 : 0 ≤ (x10_3 : Int) := of_decide_eq_true (by first | (with_reducible assumption) | assumption)
            have q272 : x10_3 < (l1_0.length : Int) := of_decide_eq_true (by first | (with_reducible assumption) | assumption)
            obtain ⟨ad272, e272, hx272_0, hx272_1, hx272_2, hx272_3⟩ := at_T43 HR1_0.out x10_3 p272 q272
            cases e272
            replace hx272_0 := (HB.out.cell (World.block_lt_of_cell? w _ hx272_0)).trans hx272_0
            replace hx272_1 := (HB.out.cell (World.block_lt_of_cell? w _ hx272_1)).trans hx272_1
            replace hx272_2 := (HB.out.cell (World.block_lt_of_cell? w _ hx272_2)).trans hx272_2
            replace hx272_3 := (HB.out.cell (World.block_lt_of_cell? w _ hx272_3)).trans hx272_3
            replace p272 := eq_true p272
            replace q272 := eq_true q272
            go_wp2_with (first | ((with_reducible refine gate_builtin (b := .append) (xs := #[.tmp 53, .tmp 59]) rfl ?_); (try (refine gate_guard (by rfl) ?_; dsimp only)); at_builtin; refine Kd.R_append k43 (w0 := w) w.heap.size rfl (.tmp 53) (.tmp 59) 22 43 (.agg #[(.int .i64 0), (.int .i64 0), (.int .i64 0), (.int .i64 0)]) 32 rfl Try.underlying22 info43 rfl (by decide) (by omega) u9 x9_3 (⟨(rd_T43 l1_0 x10_3).f0, (rd_T43 l1_0 x10_3).f1, (rd_T43 l1_0 x10_3).f2, (rd_T43 l1_0 x10_3).f3⟩ : S43) [.int .i64 ((rd_T43 l1_0 x10_3).f0), .int .i64 ((rd_T43 l1_0 x10_3).f1), .int .i64 ((rd_T43 l1_0 x10_3).f2), .int .i64 ((rd_T43 l1_0 x10_3).f3)] (fun k_ => k_ ≠ gb260) (fun _ => False) rfl rfl ?aP (fun _ hk => hk.elim) ?aF ?aO ?aB ?aS ?aL ?_; (case aP => exact k43_mkM _ _ _ (⟨(rd_T43 l1_0 x10_3).f0, (rd_T43 l1_0 x10_3).f1, (rd_T43 l1_0 x10_3).f2, (rd_T43 l1_0 x10_3).f3⟩ : S43)); (case aB => exact (by repeat (first | (with_reducible first | exact HB.out | apply below_alloc | apply pw_below_drewN | apply below_drew1 | refine below_set ?_ GE258.out | refine below_set ?_ GE259.out | refine below_set ?_ GE260.out) | exact HB.out))); (case aF => exact (fun k_ hk => Kd.freshB (by (with_reducible repeat first | apply blk_drewN | apply blk_drew | apply blk_alloc); exact BK260.out) k_ hk)); (case aO => exact (by (with_reducible repeat (first | apply Kd.R_alloc | apply Kd.R_drewN | apply Kd.R_drew)); exact HO_9.out)); (case aS => exact (below_size (by repeat (first | (with_reducible first | exact HB.out | apply below_alloc | apply pw_below_drewN | apply below_drew1 | refine below_set ?_ GE258.out | refine below_set ?_ GE259.out | refine below_set ?_ GE260.out) | exact HB.out)))); (case aL => have := LMc45.out; omega); intro v274 w49 ho hb hg hat; rw [← Ny273.out] at ho; have n0_ := Aside0.mk (Kd.R_over' (by (with_reducible repeat (first | apply Kd.R_alloc | apply Kd.R_drewN | apply Kd.R_drew)); exact HO_7.out) (Kd.R_typed (by (with_reducible repeat (first | apply Kd.R_alloc | apply Kd.R_drewN | apply Kd.R_drew)); exact HO_9.out)) (by decide) hg); have n1_ := Aside0.mk (blk_grown (by (with_reducible repeat first | apply blk_drewN | apply blk_drew | apply blk_alloc); exact BK258.out) hg (Kd.R_ne HO_9.out BK258.out (by decide))); have n2_ := Aside0.mk (blk_grown (by (with_reducible repeat first | apply blk_drewN | apply blk_drew | apply blk_alloc); exact BK259.out) hg (Kd.R_ne HO_9.out BK259.out (by decide))); have n3_ := Aside0.mk (blk_grown (by (with_reducible repeat first | apply blk_drewN | apply blk_drew | apply blk_alloc); exact BK260.out) hg (Kd.R_away HO_9.out (fun _ hk => hk))); have n4_ := Aside0.mk (hb); have n5_ := Aside0.mk (ho); clear HO_7 BK258 BK259 BK260 HB HO_9; have HO_7 := n0_; have BK258 := n1_; have BK259 := n2_; have BK260 := n3_; have HB := n4_; have HO275 := n5_; clear n0_ n1_ n2_ n3_ n4_ n5_ ho hb hg hat))
            repeat (go_quiet (first | ((with_reducible refine gate_builtin (b := .append) (xs := #[.tmp 53, .tmp 59]) rfl ?_); (try (refine gate_guard (by rfl) ?_; dsimp only)); at_builtin; refine Kd.R_append k43 (w0 := w) w.heap.size rfl (.tmp 53) (.tmp 59) 22 43 (.agg #[(.int .i64 0), (.int .i64 0), (.int .i64 0), (.int .i64 0)]) 32 rfl Try.underlying22 info43 rfl (by decide) (by omega) u9 x9_3 (⟨(rd_T43 l1_0 x10_3).f0, (rd_T43 l1_0 x10_3).f1, (rd_T43 l1_0 x10_3).f2, (rd_T43 l1_0 x10_3).f3⟩ : S43) [.int .i64 ((rd_T43 l1_0 x10_3).f0), .int .i64 ((rd_T43 l1_0 x10_3).f1), .int .i64 ((rd_T43 l1_0 x10_3).f2), .int .i64 ((rd_T43 l1_0 x10_3).f3)] (fun k_ => k_ ≠ gb260) (fun _ => False) rfl rfl ?aP (fun _ hk => hk.elim) ?aF ?aO ?aB ?aS ?aL ?_; (case aP => exact k43_mkM _ _ _ (⟨(rd_T43 l1_0 x10_3).f0, (rd_T43 l1_0 x10_3).f1, (rd_T43 l1_0 x10_3).f2, (rd_T43 l1_0 x10_3).f3⟩ : S43)); (case aB => exact (by repeat (first | (with_reducible first | exact HB.out | apply below_alloc | apply pw_below_drewN | apply below_drew1 | refine below_set ?_ GE258.out | refine below_set ?_ GE259.out | refine below_set ?_ GE260.out) | exact HB.out))); (case aF => exact (fun k_ hk => Kd.freshB (by (with_reducible repeat first | apply blk_drewN | apply blk_drew | apply blk_alloc); exact BK260.out) k_ hk)); (case aO => exact (by (with_reducible repeat (first | apply Kd.R_alloc | apply Kd.R_drewN | apply Kd.R_drew)); exact HO_9.out)); (case aS => exact (below_size (by repeat (first | (with_reducible first | exact HB.out | apply below_alloc | apply pw_below_drewN | apply below_drew1 | refine below_set ?_ GE258.out | refine below_set ?_ GE259.out | refine below_set ?_ GE260.out) | exact HB.out)))); (case aL => have := LMc45.out; omega); intro v274 w49 ho hb hg hat; rw [← Ny273.out] at ho; have n0_ := Aside0.mk (Kd.R_over' (by (with_reducible repeat (first | apply Kd.R_alloc | apply Kd.R_drewN | apply Kd.R_drew)); exact HO_7.out) (Kd.R_typed (by (with_reducible repeat (first | apply Kd.R_alloc | apply Kd.R_drewN | apply Kd.R_drew)); exact HO_9.out)) (by decide) hg); have n1_ := Aside0.mk (blk_grown (by (with_reducible repeat first | apply blk_drewN | apply blk_drew | apply blk_alloc); exact BK258.out) hg (Kd.R_ne HO_9.out BK258.out (by decide))); have n2_ := Aside0.mk (blk_grown (by (with_reducible repeat first | apply blk_drewN | apply blk_drew | apply blk_alloc); exact BK259.out) hg (Kd.R_ne HO_9.out BK259.out (by decide))); have n3_ := Aside0.mk (blk_grown (by (with_reducible repeat first | apply blk_drewN | apply blk_drew | apply blk_alloc); exact BK260.out) hg (Kd.R_away HO_9.out (fun _ hk => hk))); have n4_ := Aside0.mk (hb); have n5_ := Aside0.mk (ho); clear HO_7 BK258 BK259 BK260 HB HO_9; have HO_7 := n0_; have BK258 := n1_; have BK259 := n2_; have BK260 := n3_; have HB := n4_; have HO275 := n5_; clear n0_ n1_ n2_ n3_ n4_ n5_ ho hb hg hat)); try go_wp2_with (first | ((with_reducible refine gate_builtin (b := .append) (xs := #[.tmp 53, .tmp 59]) rfl ?_); (try (refine gate_guard (by rfl) ?_; dsimp only)); at_builtin; refine Kd.R_append k43 (w0 := w) w.heap.size rfl (.tmp 53) (.tmp 59) 22 43 (.agg #[(.int .i64 0), (.int .i64 0), (.int .i64 0), (.int .i64 0)]) 32 rfl Try.underlying22 info43 rfl (by decide) (by omega) u9 x9_3 (⟨(rd_T43 l1_0 x10_3).f0, (rd_T43 l1_0 x10_3).f1, (rd_T43 l1_0 x10_3).f2, (rd_T43 l1_0 x10_3).f3⟩ : S43) [.int .i64 ((rd_T43 l1_0 x10_3).f0), .int .i64 ((rd_T43 l1_0 x10_3).f1), .int .i64 ((rd_T43 l1_0 x10_3).f2), .int .i64 ((rd_T43 l1_0 x10_3).f3)] (fun k_ => k_ ≠ gb260) (fun _ => False) rfl rfl ?aP (fun _ hk => hk.elim) ?aF ?aO ?aB ?aS ?aL ?_; (case aP => exact k43_mkM _ _ _ (⟨(rd_T43 l1_0 x10_3).f0, (rd_T43 l1_0 x10_3).f1, (rd_T43 l1_0 x10_3).f2, (rd_T43 l1_0 x10_3).f3⟩ : S43)); (case aB => exact (by repeat (first | (with_reducible first | exact HB.out | apply below_alloc | apply pw_below_drewN | apply below_drew1 | refine below_set ?_ GE258.out | refine below_set ?_ GE259.out | refine below_set ?_ GE260.out) | exact HB.out))); (case aF => exact (fun k_ hk => Kd.freshB (by (with_reducible repeat first | apply blk_drewN | apply blk_drew | apply blk_alloc); exact BK260.out) k_ hk)); (case aO => exact (by (with_reducible repeat (first | apply Kd.R_alloc | apply Kd.R_drewN | apply Kd.R_drew)); exact HO_9.out)); (case aS => exact (below_size (by repeat (first | (with_reducible first | exact HB.out | apply below_alloc | apply pw_below_drewN | apply below_drew1 | refine below_set ?_ GE258.out | refine below_set ?_ GE259.out | refine below_set ?_ GE260.out) | exact HB.out)))); (case aL => have := LMc45.out; omega); intro v274 w49 ho hb hg hat; rw [← Ny273.out] at ho; have n0_ := Aside0.mk (Kd.R_over' (by (with_reducible repeat (first | apply Kd.R_alloc | apply Kd.R_drewN | apply Kd.R_drew)); exact HO_7.out) (Kd.R_typed (by (with_reducible repeat (first | apply Kd.R_alloc | apply Kd.R_drewN | apply Kd.R_drew)); exact HO_9.out)) (by decide) hg); have n1_ := Aside0.mk (blk_grown (by (with_reducible repeat first | apply blk_drewN | apply blk_drew | apply blk_alloc); exact BK258.out) hg (Kd.R_ne HO_9.out BK258.out (by decide))); have n2_ := Aside0.mk (blk_grown (by (with_reducible repeat first | apply blk_drewN | apply blk_drew | apply blk_alloc); exact BK259.out) hg (Kd.R_ne HO_9.out BK259.out (by decide))); have n3_ := Aside0.mk (blk_grown (by (with_reducible repeat first | apply blk_drewN | apply blk_drew | apply blk_alloc); exact BK260.out) hg (Kd.R_away HO_9.out (fun _ hk => hk))); have n4_ := Aside0.mk (hb); have n5_ := Aside0.mk (ho); clear HO_7 BK258 BK259 BK260 HB HO_9; have HO_7 := n0_; have BK258 := n1_; have BK259 := n2_; have BK260 := n3_; have HB := n4_; have HO275 := n5_; clear n0_ n1_ n2_ n3_ n4_ n5_ ho hb hg hat)))
            go_roundg k3
            case measure => have := HJ3.out; have := HJ23.out; have := HK3.out; omega
            case rel => exact ⟨(y273), (wrap64 (x10_3 + 1)), (by first | rfl | (simp; done) | (simp [*]; done)), H', ⟨by have := HJ3.out; have := HJ23.out; have := HK3.out; omega⟩, ⟨by (with_reducible repeat (first | apply Kd.R_alloc | apply Kd.R_drewN | apply Kd.R_drew)); exact HO_7.out⟩, ⟨by (with_reducible repeat (first | apply Kd.R_alloc | apply Kd.R_drewN | apply Kd.R_drew)); exact HO275.out⟩, ⟨by (with_reducible repeat first | apply blk_drewN | apply blk_drew | apply blk_alloc); exact BK258.out⟩, ⟨by (with_reducible repeat first | apply blk_drewN | apply blk_drew | apply blk_alloc); exact BK259.out⟩, ⟨by (with_reducible repeat first | apply blk_drewN | apply blk_drew | apply blk_alloc); exact BK260.out⟩, ⟨by repeat (first | (with_reducible first | exact HB.out | apply below_alloc | apply pw_below_drewN | apply below_drew1 | refine below_set ?_ GE258.out | refine below_set ?_ GE259.out | refine below_set ?_ GE260.out) | exact HB.out)⟩⟩
           ·rw [if_neg c45] at H
            exact absurd H (by simp)
          ·rw [if_neg c44] at H
           exact absurd H (by simp)
         ·rw [if_neg c43] at H
          have c43b0 : decide (x10_3 < (l1_0.length : Int)) = false := decide_eq_false c43
          clear c43
          by_cases c50 : x9_3.length < 4398046511104
          ·rw [if_pos c50] at H
           have LMc50 := Aside0.mk c50
           clear c50
           obtain ⟨y276, hy276⟩ : ∃ y_ : List (S43), y_ = (x9_3 ++ [(⟨a2_0, a2_1, a2_2, a2_3⟩ : S43)]) := ⟨_, rfl⟩
           replace H : ((traffic_Weights.f k3 l0_0 l0_1 l0_2 y276 a1_2).bind fun bt279 => ((traffic_Weights.f k3 l0_0 l0_1 l0_2 (([(⟨a2_0, a2_1, a2_2, a2_3⟩ : S43)] : List (S43))) a1_2).bind fun bt286 => (if bt279.2 = 0 then (if bt286.2 = 0 then (if (t263.length : Int) = (bt279.1.length : Int) then (if (t263.length : Int) = (bt286.1.length : Int) then (mapmakerlaw48_TrafficLast.j3 k3 t263 bt279.1 bt286.1 ((t263.length : Int) != (l0_2.length : Int)) l0_0 l0_1 l0_2 l1_0 l1_1 a1_2 a2_0 a2_1 a2_2 a2_3) else (none)) else (none)) else (none)) else (none)))) = some r := by first | (rw [hy276]; with_reducible exact H) | (have H2_ := (Option.bind_some _ _).symm.trans H; rw [hy276]; with_reducible exact H2_) | (have H2_ := (Option.bind_some _ _).symm.trans H; with_reducible exact H2_) | with_reducible exact H | (rw [hy276]; exact H) | exact H
           have Ny276 := Aside0.mk hy276
           clear hy276
           replace H := Option.bind_eq_some_iff.mp H
           obtain ⟨⟨t279, t282⟩, A510, H⟩ := H
           replace H : ((traffic_Weights.f k3 l0_0 l0_1 l0_2 (([(⟨a2_0, a2_1, a2_2, a2_3⟩ : S43)] : List (S43))) a1_2).bind fun bt286 => (if t282 = 0 then (if bt286.2 = 0 then (if (t263.length : Int) = (t279.length : Int) then (if (t263.length : Int) = (bt286.1.length : Int) then (mapmakerlaw48_TrafficLast.j3 k3 t263 t279 bt286.1 ((t263.length : Int) != (l0_2.length : Int)) l0_0 l0_1 l0_2 l1_0 l1_1 a1_2 a2_0 a2_1 a2_2 a2_3) else (none)) else (none)) else (none)) else (none))) = some r := H
           have A51 := Aside0.mk A510
           clear A510
           obtain ⟨y283, hy283⟩ : ∃ y_ : List (S43), y_ = (([(⟨a2_0, a2_1, a2_2, a2_3⟩ : S43)] : List (S43))) := ⟨_, rfl⟩
           replace H : ((traffic_Weights.f k3 l0_0 l0_1 l0_2 y283 a1_2).bind fun bt286 => (if t282 = 0 then (if bt286.2 = 0 then (if (t263.length : Int) = (t279.length : Int) then (if (t263.length : Int) = (bt286.1.length : Int) then (mapmakerlaw48_TrafficLast.j3 k3 t263 t279 bt286.1 ((t263.length : Int) != (l0_2.length : Int)) l0_0 l0_1 l0_2 l1_0 l1_1 a1_2 a2_0 a2_1 a2_2 a2_3) else (none)) else (none)) else (none)) else (none))) = some r := by first | (rw [hy283]; with_reducible exact H) | (have H2_ := (Option.bind_some _ _).symm.trans H; rw [hy283]; with_reducible exact H2_) | (have H2_ := (Option.bind_some _ _).symm.trans H; with_reducible exact H2_) | with_reducible exact H | (rw [hy283]; exact H) | exact H
           have Ny283 := Aside0.mk hy283
           clear hy283
           replace H := Option.bind_eq_some_iff.mp H
           obtain ⟨⟨t286, t289⟩, A520, H⟩ := H
           replace H : (if t282 = 0 then (if t289 = 0 then (if (t263.length : Int) = (t279.length : Int) then (if (t263.length : Int) = (t286.length : Int) then (mapmakerlaw48_TrafficLast.j3 k3 t263 t279 t286 ((t263.length : Int) != (l0_2.length : Int)) l0_0 l0_1 l0_2 l1_0 l1_1 a1_2 a2_0 a2_1 a2_2 a2_3) else (none)) else (none)) else (none)) else (none)) = some r := H
           have A52 := Aside0.mk A520
           clear A520
           have HC53 := Aside0.mk H
           clear H
           have hnb54 := NB259_258.out
           have hnc54 := NB258_259.out
           have hnb55 := NB259_260.out
           have hnc55 := NB260_259.out
           have hcz56_0 : wr.cell? ⟨gb259, 0, none⟩ = some (.slice A1_0 l1_0.length c1_0) := (blk_cell BK259.out 0).trans rfl
           have hcz56_1 : wr.cell? ⟨gb259, 1, none⟩ = some (.slice A1_1 l1_1.length c1_1) := (blk_cell BK259.out 1).trans rfl
           have hcz56_2 : wr.cell? ⟨gb259, 2, none⟩ = some (.int .i64 a1_2) := (blk_cell BK259.out 2).trans rfl
           have hfz56_0 := blk_frozen BK259.out 0
           have hfz56_1 := blk_frozen BK259.out 1
           have hfz56_2 := blk_frozen BK259.out 2
           have hnb57 := NB260_258.out
           have hnc57 := NB258_260.out
           have hcz58_0 : wr.cell? ⟨gb260, 0, none⟩ = some (.int .i64 a2_0) := (blk_cell BK260.out 0).trans rfl
           have hcz58_1 : wr.cell? ⟨gb260, 1, none⟩ = some (.int .i64 a2_1) := (blk_cell BK260.out 1).trans rfl
           have hcz58_2 : wr.cell? ⟨gb260, 2, none⟩ = some (.int .i64 a2_2) := (blk_cell BK260.out 2).trans rfl
           have hcz58_3 : wr.cell? ⟨gb260, 3, none⟩ = some (.int .i64 a2_3) := (blk_cell BK260.out 3).trans rfl
           have hfz58_0 := blk_frozen BK260.out 0
           have hfz58_1 := blk_frozen BK260.out 1
           have hfz58_2 := blk_frozen BK260.out 2
           have hfz58_3 := blk_frozen BK260.out 3
           go_upto_region 14 with (first | ((with_reducible refine gate_builtin (b := .append) (xs := #[.tmp 61, .tmp 63]) rfl ?_); (try (refine gate_guard (by rfl) ?_; dsimp only)); at_builtin; refine Kd.R_append k43 (w0 := w) w.heap.size rfl (.tmp 61) (.tmp 63) 22 43 (.agg #[(.int .i64 0), (.int .i64 0), (.int .i64 0), (.int .i64 0)]) 32 rfl Try.underlying22 info43 rfl (by decide) (by omega) u9 x9_3 (⟨a2_0, a2_1, a2_2, a2_3⟩ : S43) [.int .i64 a2_0, .int .i64 a2_1, .int .i64 a2_2, .int .i64 a2_3] (fun k_ => k_ ≠ gb260) (fun _ => False) rfl rfl ?aP (fun _ hk => hk.elim) ?aF ?aO ?aB ?aS ?aL ?_; (case aP => exact k43_mkM _ _ _ (⟨a2_0, a2_1, a2_2, a2_3⟩ : S43)); (case aB => exact (by repeat (first | (with_reducible first | exact HB.out | apply below_alloc | apply pw_below_drewN | apply below_drew1 | refine below_set ?_ GE258.out | refine below_set ?_ GE259.out | refine below_set ?_ GE260.out) | exact HB.out))); (case aF => exact (fun k_ hk => Kd.freshB (by (with_reducible repeat first | apply blk_drewN | apply blk_drew | apply blk_alloc); exact BK260.out) k_ hk)); (case aO => exact (by (with_reducible repeat (first | apply Kd.R_alloc | apply Kd.R_drewN | apply Kd.R_drew)); exact HO_9.out)); (case aS => exact (below_size (by repeat (first | (with_reducible first | exact HB.out | apply below_alloc | apply pw_below_drewN | apply below_drew1 | refine below_set ?_ GE258.out | refine below_set ?_ GE259.out | refine below_set ?_ GE260.out) | exact HB.out)))); (case aL => have := LMc50.out; omega); intro v277 w59 ho hb hg hat; rw [← Ny276.out] at ho; have n0_ := Aside0.mk (Kd.R_over' (by (with_reducible repeat (first | apply Kd.R_alloc | apply Kd.R_drewN | apply Kd.R_drew)); exact HO_7.out) (Kd.R_typed (by (with_reducible repeat (first | apply Kd.R_alloc | apply Kd.R_drewN | apply Kd.R_drew)); exact HO_9.out)) (by decide) hg); have n1_ := Aside0.mk (blk_grown (by (with_reducible repeat first | apply blk_drewN | apply blk_drew | apply blk_alloc); exact BK258.out) hg (Kd.R_ne HO_9.out BK258.out (by decide))); have n2_ := Aside0.mk (blk_grown (by (with_reducible repeat first | apply blk_drewN | apply blk_drew | apply blk_alloc); exact BK259.out) hg (Kd.R_ne HO_9.out BK259.out (by decide))); have n3_ := Aside0.mk (blk_grown (by (with_reducible repeat first | apply blk_drewN | apply blk_drew | apply blk_alloc); exact BK260.out) hg (Kd.R_away HO_9.out (fun _ hk => hk))); have n4_ := Aside0.mk (hb); have n5_ := Aside0.mk (ho); clear HO_7 BK258 BK259 BK260 HB HO_9; have HO_7 := n0_; have BK258 := n1_; have BK259 := n2_; have BK260 := n3_; have HB := n4_; have HO278 := n5_; clear n0_ n1_ n2_ n3_ n4_ n5_ ho hb hg hat; have hcz60_0 : w59.cell? ⟨gb258, 0, none⟩ = some (.slice A0_0 l0_0.length c0_0) := (blk_cell BK258.out 0).trans rfl; have hcz60_1 : w59.cell? ⟨gb258, 1, none⟩ = some (.slice A0_1 l0_1.length c0_1) := (blk_cell BK258.out 1).trans rfl; have hcz60_2 : w59.cell? ⟨gb258, 2, none⟩ = some (.slice A0_2 l0_2.length c0_2) := (blk_cell BK258.out 2).trans rfl; have hfz60_0 := blk_frozen BK258.out 0; have hfz60_1 := blk_frozen BK258.out 1; have hfz60_2 := blk_frozen BK258.out 2; have hcz61_0 : w59.cell? ⟨gb259, 0, none⟩ = some (.slice A1_0 l1_0.length c1_0) := (blk_cell BK259.out 0).trans rfl; have hcz61_1 : w59.cell? ⟨gb259, 1, none⟩ = some (.slice A1_1 l1_1.length c1_1) := (blk_cell BK259.out 1).trans rfl; have hcz61_2 : w59.cell? ⟨gb259, 2, none⟩ = some (.int .i64 a1_2) := (blk_cell BK259.out 2).trans rfl; have hfz61_0 := blk_frozen BK259.out 0; have hfz61_1 := blk_frozen BK259.out 1; have hfz61_2 := blk_frozen BK259.out 2; obtain ⟨Ao62, co62, eo62⟩ := Kd.R_slice HO278.out; subst eo62) | (go_at_call 12; (with_reducible refine (traffic_Weights.calls k3 _ _ l0_0 _ _ l0_1 _ _ l0_2 _ _ y276 a1_2 t279 t282 _ ?side1 ?side2 ?side3 ?side4 ?side5 ?side6 ?side7 ?side8 A51.out).mono ?_); (case side1 => repeat (first | exact (Kd.C_below HR0_0.out HB.out) | (with_reducible refine Kd.C_alloc ?_ _) | (with_reducible refine Kd.C_drewN ?_ _) | (with_reducible refine Kd.C_drew ?_))); (case side2 => exact HC0_0.out); (case side3 => repeat (first | exact (Kd.C_below HR0_1.out HB.out) | (with_reducible refine Kd.C_alloc ?_ _) | (with_reducible refine Kd.C_drewN ?_ _) | (with_reducible refine Kd.C_drew ?_))); (case side4 => exact HC0_1.out); (case side5 => repeat (first | exact (Kd.C_below HR0_2.out HB.out) | (with_reducible refine Kd.C_alloc ?_ _) | (with_reducible refine Kd.C_drewN ?_ _) | (with_reducible refine Kd.C_drew ?_))); (case side6 => exact HC0_2.out); (case side7 => repeat (first | exact (Kd.R_reads' HO278.out).2.2 | (with_reducible refine Kd.C_alloc ?_ _) | (with_reducible refine Kd.C_drewN ?_ _) | (with_reducible refine Kd.C_drew ?_))); (case side8 => exact (Kd.R_reads' HO278.out).2.1); rintro e w63 ⟨v280, rfl, ho0, hb⟩; have n0_ := Aside0.mk (Kd.R_elder' (by (with_reducible repeat (first | apply Kd.R_alloc | apply Kd.R_drewN | apply Kd.R_drew)); exact HO_7.out) (Kd.R_base ho0) hb); have n1_ := Aside0.mk (Kd.R_below (by (with_reducible repeat (first | apply Kd.R_alloc | apply Kd.R_drewN | apply Kd.R_drew)); exact HO278.out) hb); have n2_ := Aside0.mk (Kd.R_lower (Kd.R_new' ho0 (Kd.R_lt (by (with_reducible repeat (first | apply Kd.R_alloc | apply Kd.R_drewN | apply Kd.R_drew)); exact HO_7.out))) (below_size (by repeat (first | (with_reducible first | exact HB.out | apply below_alloc | apply pw_below_drewN | apply below_drew1 | refine below_set ?_ GE258.out | refine below_set ?_ GE259.out | refine below_set ?_ GE260.out) | exact HB.out)))); have n3_ := Aside0.mk (blk_below (by (with_reducible repeat first | apply blk_drewN | apply blk_drew | apply blk_alloc); exact BK258.out) hb); have n4_ := Aside0.mk (blk_below (by (with_reducible repeat first | apply blk_drewN | apply blk_drew | apply blk_alloc); exact BK259.out) hb); have n5_ := Aside0.mk (blk_below (by (with_reducible repeat first | apply blk_drewN | apply blk_drew | apply blk_alloc); exact BK260.out) hb); have n6_ := Aside0.mk (below_step (by repeat (first | (with_reducible first | exact HB.out | apply below_alloc | apply pw_below_drewN | apply below_drew1 | refine below_set ?_ GE258.out | refine below_set ?_ GE259.out | refine below_set ?_ GE260.out) | exact HB.out)) hb); clear HO_7 HO278 BK258 BK259 BK260 HB; have HO_7 := n0_; have HO278 := n1_; have HO281 := n2_; have BK258 := n3_; have BK259 := n4_; have BK260 := n5_; have HB := n6_; clear n0_ n1_ n2_ n3_ n4_ n5_ n6_; (try clear hb); (try clear hb2); (try clear hk); (try clear hi); (try clear ho0); have hcz64_0 : w63.cell? ⟨gb258, 0, none⟩ = some (.slice A0_0 l0_0.length c0_0) := (blk_cell BK258.out 0).trans rfl; have hcz64_1 : w63.cell? ⟨gb258, 1, none⟩ = some (.slice A0_1 l0_1.length c0_1) := (blk_cell BK258.out 1).trans rfl; have hcz64_2 : w63.cell? ⟨gb258, 2, none⟩ = some (.slice A0_2 l0_2.length c0_2) := (blk_cell BK258.out 2).trans rfl; have hfz64_0 := blk_frozen BK258.out 0; have hfz64_1 := blk_frozen BK258.out 1; have hfz64_2 := blk_frozen BK258.out 2; have hcz65_0 : w63.cell? ⟨gb260, 0, none⟩ = some (.int .i64 a2_0) := (blk_cell BK260.out 0).trans rfl; have hcz65_1 : w63.cell? ⟨gb260, 1, none⟩ = some (.int .i64 a2_1) := (blk_cell BK260.out 1).trans rfl; have hcz65_2 : w63.cell? ⟨gb260, 2, none⟩ = some (.int .i64 a2_2) := (blk_cell BK260.out 2).trans rfl; have hcz65_3 : w63.cell? ⟨gb260, 3, none⟩ = some (.int .i64 a2_3) := (blk_cell BK260.out 3).trans rfl; have hfz65_0 := blk_frozen BK260.out 0; have hfz65_1 := blk_frozen BK260.out 1; have hfz65_2 := blk_frozen BK260.out 2; have hfz65_3 := blk_frozen BK260.out 3) | ((with_reducible refine gate_dst (N := 76) rfl ?_); (try (refine gate_guard (by rfl) ?_; dsimp only)); refine Kd.R_lit k43 _ 43 ?hg (N := 76) ?hd (xs := ([(⟨a2_0, a2_1, a2_2, a2_3⟩ : S43)] : List (S43))) (inner := [.int .i64 a2_0, .int .i64 a2_1, .int .i64 a2_2, .int .i64 a2_3]) (ok := fun _ => True) (okp := fun _ => True) ?hr ?hp (fun _ hk => hk) trivial (Below.refl _ _) (Nat.le_refl _) (by simp) ?_; (case hd => rfl); (case hg => rfl); (case hr => first | (go_simp; done) | (go_simp; rfl)); (case hp => exact (Reps.c4 (show Kd.M k43 _ _ _ (⟨a2_0, a2_1, a2_2, a2_3⟩ : S43) [.int .i64 a2_0, .int .i64 a2_1, .int .i64 a2_2, .int .i64 a2_3] from (k43_mkM _ _ _ (⟨a2_0, a2_1, a2_2, a2_3⟩ : S43) )) (Reps.none _ _))); intro v284 w66 ho67 hb hg_ hnew_; clear hg_ hnew_; (first | rw [← Ny283.out] at ho67 | (simp only [Int.reduceToNat] at ho67; rw [← Ny283.out] at ho67)); have n0_ := Aside0.mk (Kd.R_below (by (with_reducible repeat (first | apply Kd.R_alloc | apply Kd.R_drewN | apply Kd.R_drew)); exact HO_7.out) hb); have n1_ := Aside0.mk (Kd.R_elder' (by (with_reducible repeat (first | apply Kd.R_alloc | apply Kd.R_drewN | apply Kd.R_drew)); exact HO278.out) (Kd.R_base ho67) hb); have n2_ := Aside0.mk (Kd.R_below (by (with_reducible repeat (first | apply Kd.R_alloc | apply Kd.R_drewN | apply Kd.R_drew)); exact HO281.out) hb); have n3_ := Aside0.mk (Kd.R_lower (Kd.R_newB (Kd.R_new' ho67 (Kd.R_lt (by (with_reducible repeat (first | apply Kd.R_alloc | apply Kd.R_drewN | apply Kd.R_drew)); exact HO278.out))) (by (with_reducible repeat first | apply blk_drewN | apply blk_drew | apply blk_alloc); exact BK260.out)) (below_size (by repeat (first | (with_reducible first | exact HB.out | apply below_alloc | apply pw_below_drewN | apply below_drew1 | refine below_set ?_ GE258.out | refine below_set ?_ GE259.out | refine below_set ?_ GE260.out) | exact HB.out)))); have n4_ := Aside0.mk (blk_below (by (with_reducible repeat first | apply blk_drewN | apply blk_drew | apply blk_alloc); exact BK258.out) hb); have n5_ := Aside0.mk (blk_below (by (with_reducible repeat first | apply blk_drewN | apply blk_drew | apply blk_alloc); exact BK259.out) hb); have n6_ := Aside0.mk (blk_below (by (with_reducible repeat first | apply blk_drewN | apply blk_drew | apply blk_alloc); exact BK260.out) hb); have n7_ := Aside0.mk (below_step (by repeat (first | (with_reducible first | exact HB.out | apply below_alloc | apply pw_below_drewN | apply below_drew1 | refine below_set ?_ GE258.out | refine below_set ?_ GE259.out | refine below_set ?_ GE260.out) | exact HB.out)) hb); clear HO_7 HO278 HO281 BK258 BK259 BK260 HB; have HO_7 := n0_; have HO278 := n1_; have HO281 := n2_; have HO285 := n3_; have BK258 := n4_; have BK259 := n5_; have BK260 := n6_; have HB := n7_; clear n0_ n1_ n2_ n3_ n4_ n5_ n6_ n7_ hb ho67; have hcz68_0 : w66.cell? ⟨gb259, 0, none⟩ = some (.slice A1_0 l1_0.length c1_0) := (blk_cell BK259.out 0).trans rfl; have hcz68_1 : w66.cell? ⟨gb259, 1, none⟩ = some (.slice A1_1 l1_1.length c1_1) := (blk_cell BK259.out 1).trans rfl; have hcz68_2 : w66.cell? ⟨gb259, 2, none⟩ = some (.int .i64 a1_2) := (blk_cell BK259.out 2).trans rfl; have hfz68_0 := blk_frozen BK259.out 0; have hfz68_1 := blk_frozen BK259.out 1; have hfz68_2 := blk_frozen BK259.out 2; obtain ⟨Ao69, co69, eo69⟩ := Kd.R_slice HO285.out; subst eo69) | (go_at_call 12; (with_reducible refine (traffic_Weights.calls k3 _ _ l0_0 _ _ l0_1 _ _ l0_2 _ _ y283 a1_2 t286 t289 _ ?side1 ?side2 ?side3 ?side4 ?side5 ?side6 ?side7 ?side8 A52.out).mono ?_); (case side1 => repeat (first | exact (Kd.C_below HR0_0.out HB.out) | (with_reducible refine Kd.C_alloc ?_ _) | (with_reducible refine Kd.C_drewN ?_ _) | (with_reducible refine Kd.C_drew ?_))); (case side2 => exact HC0_0.out); (case side3 => repeat (first | exact (Kd.C_below HR0_1.out HB.out) | (with_reducible refine Kd.C_alloc ?_ _) | (with_reducible refine Kd.C_drewN ?_ _) | (with_reducible refine Kd.C_drew ?_))); (case side4 => exact HC0_1.out); (case side5 => repeat (first | exact (Kd.C_below HR0_2.out HB.out) | (with_reducible refine Kd.C_alloc ?_ _) | (with_reducible refine Kd.C_drewN ?_ _) | (with_reducible refine Kd.C_drew ?_))); (case side6 => exact HC0_2.out); (case side7 => repeat (first | exact (Kd.R_reads' HO285.out).2.2 | (with_reducible refine Kd.C_alloc ?_ _) | (with_reducible refine Kd.C_drewN ?_ _) | (with_reducible refine Kd.C_drew ?_))); (case side8 => exact (Kd.R_reads' HO285.out).2.1); rintro e w70 ⟨v287, rfl, ho0, hb⟩; have n0_ := Aside0.mk (Kd.R_elder' (by (with_reducible repeat (first | apply Kd.R_alloc | apply Kd.R_drewN | apply Kd.R_drew)); exact HO_7.out) (Kd.R_base ho0) hb); have n1_ := Aside0.mk (Kd.R_below (by (with_reducible repeat (first | apply Kd.R_alloc | apply Kd.R_drewN | apply Kd.R_drew)); exact HO278.out) hb); have n2_ := Aside0.mk (Kd.R_elder' (by (with_reducible repeat (first | apply Kd.R_alloc | apply Kd.R_drewN | apply Kd.R_drew)); exact HO281.out) (Kd.R_base ho0) hb); have n3_ := Aside0.mk (Kd.R_below (by (with_reducible repeat (first | apply Kd.R_alloc | apply Kd.R_drewN | apply Kd.R_drew)); exact HO285.out) hb); have n4_ := Aside0.mk (Kd.R_lower (Kd.R_new' (Kd.R_new' ho0 (Kd.R_lt (by (with_reducible repeat (first | apply Kd.R_alloc | apply Kd.R_drewN | apply Kd.R_drew)); exact HO_7.out))) (Kd.R_lt (by (with_reducible repeat (first | apply Kd.R_alloc | apply Kd.R_drewN | apply Kd.R_drew)); exact HO281.out))) (below_size (by repeat (first | (with_reducible first | exact HB.out | apply below_alloc | apply pw_below_drewN | apply below_drew1 | refine below_set ?_ GE258.out | refine below_set ?_ GE259.out | refine below_set ?_ GE260.out) | exact HB.out)))); have n5_ := Aside0.mk (blk_below (by (with_reducible repeat first | apply blk_drewN | apply blk_drew | apply blk_alloc); exact BK258.out) hb); have n6_ := Aside0.mk (blk_below (by (with_reducible repeat first | apply blk_drewN | apply blk_drew | apply blk_alloc); exact BK259.out) hb); have n7_ := Aside0.mk (blk_below (by (with_reducible repeat first | apply blk_drewN | apply blk_drew | apply blk_alloc); exact BK260.out) hb); have n8_ := Aside0.mk (below_step (by repeat (first | (with_reducible first | exact HB.out | apply below_alloc | apply pw_below_drewN | apply below_drew1 | refine below_set ?_ GE258.out | refine below_set ?_ GE259.out | refine below_set ?_ GE260.out) | exact HB.out)) hb); clear HO_7 HO278 HO281 HO285 BK258 BK259 BK260 HB; have HO_7 := n0_; have HO278 := n1_; have HO281 := n2_; have HO285 := n3_; have HO288 := n4_; have BK258 := n5_; have BK259 := n6_; have BK260 := n7_; have HB := n8_; clear n0_ n1_ n2_ n3_ n4_ n5_ n6_ n7_ n8_; (try clear hb); (try clear hb2); (try clear hk); (try clear hi); (try clear ho0)))
           repeat (go_quiet (first | ((with_reducible refine gate_builtin (b := .append) (xs := #[.tmp 61, .tmp 63]) rfl ?_); (try (refine gate_guard (by rfl) ?_; dsimp only)); at_builtin; refine Kd.R_append k43 (w0 := w) w.heap.size rfl (.tmp 61) (.tmp 63) 22 43 (.agg #[(.int .i64 0), (.int .i64 0), (.int .i64 0), (.int .i64 0)]) 32 rfl Try.underlying22 info43 rfl (by decide) (by omega) u9 x9_3 (⟨a2_0, a2_1, a2_2, a2_3⟩ : S43) [.int .i64 a2_0, .int .i64 a2_1, .int .i64 a2_2, .int .i64 a2_3] (fun k_ => k_ ≠ gb260) (fun _ => False) rfl rfl ?aP (fun _ hk => hk.elim) ?aF ?aO ?aB ?aS ?aL ?_; (case aP => exact k43_mkM _ _ _ (⟨a2_0, a2_1, a2_2, a2_3⟩ : S43)); (case aB => exact (by repeat (first | (with_reducible first | exact HB.out | apply below_alloc | apply pw_below_drewN | apply below_drew1 | refine below_set ?_ GE258.out | refine below_set ?_ GE259.out | refine below_set ?_ GE260.out) | exact HB.out))); (case aF => exact (fun k_ hk => Kd.freshB (by (with_reducible repeat first | apply blk_drewN | apply blk_drew | apply blk_alloc); exact BK260.out) k_ hk)); (case aO => exact (by (with_reducible repeat (first | apply Kd.R_alloc | apply Kd.R_drewN | apply Kd.R_drew)); exact HO_9.out)); (case aS => exact (below_size (by repeat (first | (with_reducible first | exact HB.out | apply below_alloc | apply pw_below_drewN | apply below_drew1 | refine below_set ?_ GE258.out | refine below_set ?_ GE259.out | refine below_set ?_ GE260.out) | exact HB.out)))); (case aL => have := LMc50.out; omega); intro v277 w59 ho hb hg hat; rw [← Ny276.out] at ho; have n0_ := Aside0.mk (Kd.R_over' (by (with_reducible repeat (first | apply Kd.R_alloc | apply Kd.R_drewN | apply Kd.R_drew)); exact HO_7.out) (Kd.R_typed (by (with_reducible repeat (first | apply Kd.R_alloc | apply Kd.R_drewN | apply Kd.R_drew)); exact HO_9.out)) (by decide) hg); have n1_ := Aside0.mk (blk_grown (by (with_reducible repeat first | apply blk_drewN | apply blk_drew | apply blk_alloc); exact BK258.out) hg (Kd.R_ne HO_9.out BK258.out (by decide))); have n2_ := Aside0.mk (blk_grown (by (with_reducible repeat first | apply blk_drewN | apply blk_drew | apply blk_alloc); exact BK259.out) hg (Kd.R_ne HO_9.out BK259.out (by decide))); have n3_ := Aside0.mk (blk_grown (by (with_reducible repeat first | apply blk_drewN | apply blk_drew | apply blk_alloc); exact BK260.out) hg (Kd.R_away HO_9.out (fun _ hk => hk))); have n4_ := Aside0.mk (hb); have n5_ := Aside0.mk (ho); clear HO_7 BK258 BK259 BK260 HB HO_9; have HO_7 := n0_; have BK258 := n1_; have BK259 := n2_; have BK260 := n3_; have HB := n4_; have HO278 := n5_; clear n0_ n1_ n2_ n3_ n4_ n5_ ho hb hg hat; have hcz60_0 : w59.cell? ⟨gb258, 0, none⟩ = some (.slice A0_0 l0_0.length c0_0) := (blk_cell BK258.out 0).trans rfl; have hcz60_1 : w59.cell? ⟨gb258, 1, none⟩ = some (.slice A0_1 l0_1.length c0_1) := (blk_cell BK258.out 1).trans rfl; have hcz60_2 : w59.cell? ⟨gb258, 2, none⟩ = some (.slice A0_2 l0_2.length c0_2) := (blk_cell BK258.out 2).trans rfl; have hfz60_0 := blk_frozen BK258.out 0; have hfz60_1 := blk_frozen BK258.out 1; have hfz60_2 := blk_frozen BK258.out 2; have hcz61_0 : w59.cell? ⟨gb259, 0, none⟩ = some (.slice A1_0 l1_0.length c1_0) := (blk_cell BK259.out 0).trans rfl; have hcz61_1 : w59.cell? ⟨gb259, 1, none⟩ = some (.slice A1_1 l1_1.length c1_1) := (blk_cell BK259.out 1).trans rfl; have hcz61_2 : w59.cell? ⟨gb259, 2, none⟩ = some (.int .i64 a1_2) := (blk_cell BK259.out 2).trans rfl; have hfz61_0 := blk_frozen BK259.out 0; have hfz61_1 := blk_frozen BK259.out 1; have hfz61_2 := blk_frozen BK259.out 2; obtain ⟨Ao62, co62, eo62⟩ := Kd.R_slice HO278.out; subst eo62) | (go_at_call 12; (with_reducible refine (traffic_Weights.calls k3 _ _ l0_0 _ _ l0_1 _ _ l0_2 _ _ y276 a1_2 t279 t282 _ ?side1 ?side2 ?side3 ?side4 ?side5 ?side6 ?side7 ?side8 A51.out).mono ?_); (case side1 => repeat (first | exact (Kd.C_below HR0_0.out HB.out) | (with_reducible refine Kd.C_alloc ?_ _) | (with_reducible refine Kd.C_drewN ?_ _) | (with_reducible refine Kd.C_drew ?_))); (case side2 => exact HC0_0.out); (case side3 => repeat (first | exact (Kd.C_below HR0_1.out HB.out) | (with_reducible refine Kd.C_alloc ?_ _) | (with_reducible refine Kd.C_drewN ?_ _) | (with_reducible refine Kd.C_drew ?_))); (case side4 => exact HC0_1.out); (case side5 => repeat (first | exact (Kd.C_below HR0_2.out HB.out) | (with_reducible refine Kd.C_alloc ?_ _) | (with_reducible refine Kd.C_drewN ?_ _) | (with_reducible refine Kd.C_drew ?_))); (case side6 => exact HC0_2.out); (case side7 => repeat (first | exact (Kd.R_reads' HO278.out).2.2 | (with_reducible refine Kd.C_alloc ?_ _) | (with_reducible refine Kd.C_drewN ?_ _) | (with_reducible refine Kd.C_drew ?_))); (case side8 => exact (Kd.R_reads' HO278.out).2.1); rintro e w63 ⟨v280, rfl, ho0, hb⟩; have n0_ := Aside0.mk (Kd.R_elder' (by (with_reducible repeat (first | apply Kd.R_alloc | apply Kd.R_drewN | apply Kd.R_drew)); exact HO_7.out) (Kd.R_base ho0) hb); have n1_ := Aside0.mk (Kd.R_below (by (with_reducible repeat (first | apply Kd.R_alloc | apply Kd.R_drewN | apply Kd.R_drew)); exact HO278.out) hb); have n2_ := Aside0.mk (Kd.R_lower (Kd.R_new' ho0 (Kd.R_lt (by (with_reducible repeat (first | apply Kd.R_alloc | apply Kd.R_drewN | apply Kd.R_drew)); exact HO_7.out))) (below_size (by repeat (first | (with_reducible first | exact HB.out | apply below_alloc | apply pw_below_drewN | apply below_drew1 | refine below_set ?_ GE258.out | refine below_set ?_ GE259.out | refine below_set ?_ GE260.out) | exact HB.out)))); have n3_ := Aside0.mk (blk_below (by (with_reducible repeat first | apply blk_drewN | apply blk_drew | apply blk_alloc); exact BK258.out) hb); have n4_ := Aside0.mk (blk_below (by (with_reducible repeat first | apply blk_drewN | apply blk_drew | apply blk_alloc); exact BK259.out) hb); have n5_ := Aside0.mk (blk_below (by (with_reducible repeat first | apply blk_drewN | apply blk_drew | apply blk_alloc); exact BK260.out) hb); have n6_ := Aside0.mk (below_step (by repeat (first | (with_reducible first | exact HB.out | apply below_alloc | apply pw_below_drewN | apply below_drew1 | refine below_set ?_ GE258.out | refine below_set ?_ GE259.out | refine below_set ?_ GE260.out) | exact HB.out)) hb); clear HO_7 HO278 BK258 BK259 BK260 HB; have HO_7 := n0_; have HO278 := n1_; have HO281 := n2_; have BK258 := n3_; have BK259 := n4_; have BK260 := n5_; have HB := n6_; clear n0_ n1_ n2_ n3_ n4_ n5_ n6_; (try clear hb); (try clear hb2); (try clear hk); (try clear hi); (try clear ho0); have hcz64_0 : w63.cell? ⟨gb258, 0, none⟩ = some (.slice A0_0 l0_0.length c0_0) := (blk_cell BK258.out 0).trans rfl; have hcz64_1 : w63.cell? ⟨gb258, 1, none⟩ = some (.slice A0_1 l0_1.length c0_1) := (blk_cell BK258.out 1).trans rfl; have hcz64_2 : w63.cell? ⟨gb258, 2, none⟩ = some (.slice A0_2 l0_2.length c0_2) := (blk_cell BK258.out 2).trans rfl; have hfz64_0 := blk_frozen BK258.out 0; have hfz64_1 := blk_frozen BK258.out 1; have hfz64_2 := blk_frozen BK258.out 2; have hcz65_0 : w63.cell? ⟨gb260, 0, none⟩ = some (.int .i64 a2_0) := (blk_cell BK260.out 0).trans rfl; have hcz65_1 : w63.cell? ⟨gb260, 1, none⟩ = some (.int .i64 a2_1) := (blk_cell BK260.out 1).trans rfl; have hcz65_2 : w63.cell? ⟨gb260, 2, none⟩ = some (.int .i64 a2_2) := (blk_cell BK260.out 2).trans rfl; have hcz65_3 : w63.cell? ⟨gb260, 3, none⟩ = some (.int .i64 a2_3) := (blk_cell BK260.out 3).trans rfl; have hfz65_0 := blk_frozen BK260.out 0; have hfz65_1 := blk_frozen BK260.out 1; have hfz65_2 := blk_frozen BK260.out 2; have hfz65_3 := blk_frozen BK260.out 3) | ((with_reducible refine gate_dst (N := 76) rfl ?_); (try (refine gate_guard (by rfl) ?_; dsimp only)); refine Kd.R_lit k43 _ 43 ?hg (N := 76) ?hd (xs := ([(⟨a2_0, a2_1, a2_2, a2_3⟩ : S43)] : List (S43))) (inner := [.int .i64 a2_0, .int .i64 a2_1, .int .i64 a2_2, .int .i64 a2_3]) (ok := fun _ => True) (okp := fun _ => True) ?hr ?hp (fun _ hk => hk) trivial (Below.refl _ _) (Nat.le_refl _) (by simp) ?_; (case hd => rfl); (case hg => rfl); (case hr => first | (go_simp; done) | (go_simp; rfl)); (case hp => exact (Reps.c4 (show Kd.M k43 _ _ _ (⟨a2_0, a2_1, a2_2, a2_3⟩ : S43) [.int .i64 a2_0, .int .i64 a2_1, .int .i64 a2_2, .int .i64 a2_3] from (k43_mkM _ _ _ (⟨a2_0, a2_1, a2_2, a2_3⟩ : S43) )) (Reps.none _ _))); intro v284 w66 ho67 hb hg_ hnew_; clear hg_ hnew_; (first | rw [← Ny283.out] at ho67 | (simp only [Int.reduceToNat] at ho67; rw [← Ny283.out] at ho67)); have n0_ := Aside0.mk (Kd.R_below (by (with_reducible repeat (first | apply Kd.R_alloc | apply Kd.R_drewN | apply Kd.R_drew)); exact HO_7.out) hb); have n1_ := Aside0.mk (Kd.R_elder' (by (with_reducible repeat (first | apply Kd.R_alloc | apply Kd.R_drewN | apply Kd.R_drew)); exact HO278.out) (Kd.R_base ho67) hb); have n2_ := Aside0.mk (Kd.R_below (by (with_reducible repeat (first | apply Kd.R_alloc | apply Kd.R_drewN | apply Kd.R_drew)); exact HO281.out) hb); have n3_ := Aside0.mk (Kd.R_lower (Kd.R_newB (Kd.R_new' ho67 (Kd.R_lt (by (with_reducible repeat (first | apply Kd.R_alloc | apply Kd.R_drewN | apply Kd.R_drew)); exact HO278.out))) (by (with_reducible repeat first | apply blk_drewN | apply blk_drew | apply blk_alloc); exact BK260.out)) (below_size (by repeat (first | (with_reducible first | exact HB.out | apply below_alloc | apply pw_below_drewN | apply below_drew1 | refine below_set ?_ GE258.out | refine below_set ?_ GE259.out | refine below_set ?_ GE260.out) | exact HB.out)))); have n4_ := Aside0.mk (blk_below (by (with_reducible repeat first | apply blk_drewN | apply blk_drew | apply blk_alloc); exact BK258.out) hb); have n5_ := Aside0.mk (blk_below (by (with_reducible repeat first | apply blk_drewN | apply blk_drew | apply blk_alloc); exact BK259.out) hb); have n6_ := Aside0.mk (blk_below (by (with_reducible repeat first | apply blk_drewN | apply blk_drew | apply blk_alloc); exact BK260.out) hb); have n7_ := Aside0.mk (below_step (by repeat (first | (with_reducible first | exact HB.out | apply below_alloc | apply pw_below_drewN | apply below_drew1 | refine below_set ?_ GE258.out | refine below_set ?_ GE259.out | refine below_set ?_ GE260.out) | exact HB.out)) hb); clear HO_7 HO278 HO281 BK258 BK259 BK260 HB; have HO_7 := n0_; have HO278 := n1_; have HO281 := n2_; have HO285 := n3_; have BK258 := n4_; have BK259 := n5_; have BK260 := n6_; have HB := n7_; clear n0_ n1_ n2_ n3_ n4_ n5_ n6_ n7_ hb ho67; have hcz68_0 : w66.cell? ⟨gb259, 0, none⟩ = some (.slice A1_0 l1_0.length c1_0) := (blk_cell BK259.out 0).trans rfl; have hcz68_1 : w66.cell? ⟨gb259, 1, none⟩ = some (.slice A1_1 l1_1.length c1_1) := (blk_cell BK259.out 1).trans rfl; have hcz68_2 : w66.cell? ⟨gb259, 2, none⟩ = some (.int .i64 a1_2) := (blk_cell BK259.out 2).trans rfl; have hfz68_0 := blk_frozen BK259.out 0; have hfz68_1 := blk_frozen BK259.out 1; have hfz68_2 := blk_frozen BK259.out 2; obtain ⟨Ao69, co69, eo69⟩ := Kd.R_slice HO285.out; subst eo69) | (go_at_call 12; (with_reducible refine (traffic_Weights.calls k3 _ _ l0_0 _ _ l0_1 _ _ l0_2 _ _ y283 a1_2 t286 t289 _ ?side1 ?side2 ?side3 ?side4 ?side5 ?side6 ?side7 ?side8 A52.out).mono ?_); (case side1 => repeat (first | exact (Kd.C_below HR0_0.out HB.out) | (with_reducible refine Kd.C_alloc ?_ _) | (with_reducible refine Kd.C_drewN ?_ _) | (with_reducible refine Kd.C_drew ?_))); (case side2 => exact HC0_0.out); (case side3 => repeat (first | exact (Kd.C_below HR0_1.out HB.out) | (with_reducible refine Kd.C_alloc ?_ _) | (with_reducible refine Kd.C_drewN ?_ _) | (with_reducible refine Kd.C_drew ?_))); (case side4 => exact HC0_1.out); (case side5 => repeat (first | exact (Kd.C_below HR0_2.out HB.out) | (with_reducible refine Kd.C_alloc ?_ _) | (with_reducible refine Kd.C_drewN ?_ _) | (with_reducible refine Kd.C_drew ?_))); (case side6 => exact HC0_2.out); (case side7 => repeat (first | exact (Kd.R_reads' HO285.out).2.2 | (with_reducible refine Kd.C_alloc ?_ _) | (with_reducible refine Kd.C_drewN ?_ _) | (with_reducible refine Kd.C_drew ?_))); (case side8 => exact (Kd.R_reads' HO285.out).2.1); rintro e w70 ⟨v287, rfl, ho0, hb⟩; have n0_ := Aside0.mk (Kd.R_elder' (by (with_reducible repeat (first | apply Kd.R_alloc | apply Kd.R_drewN | apply Kd.R_drew)); exact HO_7.out) (Kd.R_base ho0) hb); have n1_ := Aside0.mk (Kd.R_below (by (with_reducible repeat (first | apply Kd.R_alloc | apply Kd.R_drewN | apply Kd.R_drew)); exact HO278.out) hb); have n2_ := Aside0.mk (Kd.R_elder' (by (with_reducible repeat (first | apply Kd.R_alloc | apply Kd.R_drewN | apply Kd.R_drew)); exact HO281.out) (Kd.R_base ho0) hb); have n3_ := Aside0.mk (Kd.R_below (by (with_reducible repeat (first | apply Kd.R_alloc | apply Kd.R_drewN | apply Kd.R_drew)); exact HO285.out) hb); have n4_ := Aside0.mk (Kd.R_lower (Kd.R_new' (Kd.R_new' ho0 (Kd.R_lt (by (with_reducible repeat (first | apply Kd.R_alloc | apply Kd.R_drewN | apply Kd.R_drew)); exact HO_7.out))) (Kd.R_lt (by (with_reducible repeat (first | apply Kd.R_alloc | apply Kd.R_drewN | apply Kd.R_drew)); exact HO281.out))) (below_size (by repeat (first | (with_reducible first | exact HB.out | apply below_alloc | apply pw_below_drewN | apply below_drew1 | refine below_set ?_ GE258.out | refine below_set ?_ GE259.out | refine below_set ?_ GE260.out) | exact HB.out)))); have n5_ := Aside0.mk (blk_below (by (with_reducible repeat first | apply blk_drewN | apply blk_drew | apply blk_alloc); exact BK258.out) hb); have n6_ := Aside0.mk (blk_below (by (with_reducible repeat first | apply blk_drewN | apply blk_drew | apply blk_alloc); exact BK259.out) hb); have n7_ := Aside0.mk (blk_below (by (with_reducible repeat first | apply blk_drewN | apply blk_drew | apply blk_alloc); exact BK260.out) hb); have n8_ := Aside0.mk (below_step (by repeat (first | (with_reducible first | exact HB.out | apply below_alloc | apply pw_below_drewN | apply below_drew1 | refine below_set ?_ GE258.out | refine below_set ?_ GE259.out | refine below_set ?_ GE260.out) | exact HB.out)) hb); clear HO_7 HO278 HO281 HO285 BK258 BK259 BK260 HB; have HO_7 := n0_; have HO278 := n1_; have HO281 := n2_; have HO285 := n3_; have HO288 := n4_; have BK258 := n5_; have BK259 := n6_; have BK260 := n7_; have HB := n8_; clear n0_ n1_ n2_ n3_ n4_ n5_ n6_ n7_ n8_; (try clear hb); (try clear hb2); (try clear hk); (try clear hi); (try clear ho0))); go_upto_region 14 with (first | ((with_reducible refine gate_builtin (b := .append) (xs := #[.tmp 61, .tmp 63]) rfl ?_); (try (refine gate_guard (by rfl) ?_; dsimp only)); at_builtin; refine Kd.R_append k43 (w0 := w) w.heap.size rfl (.tmp 61) (.tmp 63) 22 43 (.agg #[(.int .i64 0), (.int .i64 0), (.int .i64 0), (.int .i64 0)]) 32 rfl Try.underlying22 info43 rfl (by decide) (by omega) u9 x9_3 (⟨a2_0, a2_1, a2_2, a2_3⟩ : S43) [.int .i64 a2_0, .int .i64 a2_1, .int .i64 a2_2, .int .i64 a2_3] (fun k_ => k_ ≠ gb260) (fun _ => False) rfl rfl ?aP (fun _ hk => hk.elim) ?aF ?aO ?aB ?aS ?aL ?_; (case aP => exact k43_mkM _ _ _ (⟨a2_0, a2_1, a2_2, a2_3⟩ : S43)); (case aB => exact (by repeat (first | (with_reducible first | exact HB.out | apply below_alloc | apply pw_below_drewN | apply below_drew1 | refine below_set ?_ GE258.out | refine below_set ?_ GE259.out | refine below_set ?_ GE260.out) | exact HB.out))); (case aF => exact (fun k_ hk => Kd.freshB (by (with_reducible repeat first | apply blk_drewN | apply blk_drew | apply blk_alloc); exact BK260.out) k_ hk)); (case aO => exact (by (with_reducible repeat (first | apply Kd.R_alloc | apply Kd.R_drewN | apply Kd.R_drew)); exact HO_9.out)); (case aS => exact (below_size (by repeat (first | (with_reducible first | exact HB.out | apply below_alloc | apply pw_below_drewN | apply below_drew1 | refine below_set ?_ GE258.out | refine below_set ?_ GE259.out | refine below_set ?_ GE260.out) | exact HB.out)))); (case aL => have := LMc50.out; omega); intro v277 w59 ho hb hg hat; rw [← Ny276.out] at ho; have n0_ := Aside0.mk (Kd.R_over' (by (with_reducible repeat (first | apply Kd.R_alloc | apply Kd.R_drewN | apply Kd.R_drew)); exact HO_7.out) (Kd.R_typed (by (with_reducible repeat (first | apply Kd.R_alloc | apply Kd.R_drewN | apply Kd.R_drew)); exact HO_9.out)) (by decide) hg); have n1_ := Aside0.mk (blk_grown (by (with_reducible repeat first | apply blk_drewN | apply blk_drew | apply blk_alloc); exact BK258.out) hg (Kd.R_ne HO_9.out BK258.out (by decide))); have n2_ := Aside0.mk (blk_grown (by (with_reducible repeat first | apply blk_drewN | apply blk_drew | apply blk_alloc); exact BK259.out) hg (Kd.R_ne HO_9.out BK259.out (by decide))); have n3_ := Aside0.mk (blk_grown (by (with_reducible repeat first | apply blk_drewN | apply blk_drew | apply blk_alloc); exact BK260.out) hg (Kd.R_away HO_9.out (fun _ hk => hk))); have n4_ := Aside0.mk (hb); have n5_ := Aside0.mk (ho); clear HO_7 BK258 BK259 BK260 HB HO_9; have HO_7 := n0_; have BK258 := n1_; have BK259 := n2_; have BK260 := n3_; have HB := n4_; have HO278 := n5_; clear n0_ n1_ n2_ n3_ n4_ n5_ ho hb hg hat; have hcz60_0 : w59.cell? ⟨gb258, 0, none⟩ = some (.slice A0_0 l0_0.length c0_0) := (blk_cell BK258.out 0).trans rfl; have hcz60_1 : w59.cell? ⟨gb258, 1, none⟩ = some (.slice A0_1 l0_1.length c0_1) := (blk_cell BK258.out 1).trans rfl; have hcz60_2 : w59.cell? ⟨gb258, 2, none⟩ = some (.slice A0_2 l0_2.length c0_2) := (blk_cell BK258.out 2).trans rfl; have hfz60_0 := blk_frozen BK258.out 0; have hfz60_1 := blk_frozen BK258.out 1; have hfz60_2 := blk_frozen BK258.out 2; have hcz61_0 : w59.cell? ⟨gb259, 0, none⟩ = some (.slice A1_0 l1_0.length c1_0) := (blk_cell BK259.out 0).trans rfl; have hcz61_1 : w59.cell? ⟨gb259, 1, none⟩ = some (.slice A1_1 l1_1.length c1_1) := (blk_cell BK259.out 1).trans rfl; have hcz61_2 : w59.cell? ⟨gb259, 2, none⟩ = some (.int .i64 a1_2) := (blk_cell BK259.out 2).trans rfl; have hfz61_0 := blk_frozen BK259.out 0; have hfz61_1 := blk_frozen BK259.out 1; have hfz61_2 := blk_frozen BK259.out 2; obtain ⟨Ao62, co62, eo62⟩ := Kd.R_slice HO278.out; subst eo62) | (go_at_call 12; (with_reducible refine (traffic_Weights.calls k3 _ _ l0_0 _ _ l0_1 _ _ l0_2 _ _ y276 a1_2 t279 t282 _ ?side1 ?side2 ?side3 ?side4 ?side5 ?side6 ?side7 ?side8 A51.out).mono ?_); (case side1 => repeat (first | exact (Kd.C_below HR0_0.out HB.out) | (with_reducible refine Kd.C_alloc ?_ _) | (with_reducible refine Kd.C_drewN ?_ _) | (with_reducible refine Kd.C_drew ?_))); (case side2 => exact HC0_0.out); (case side3 => repeat (first | exact (Kd.C_below HR0_1.out HB.out) | (with_reducible refine Kd.C_alloc ?_ _) | (with_reducible refine Kd.C_drewN ?_ _) | (with_reducible refine Kd.C_drew ?_))); (case side4 => exact HC0_1.out); (case side5 => repeat (first | exact (Kd.C_below HR0_2.out HB.out) | (with_reducible refine Kd.C_alloc ?_ _) | (with_reducible refine Kd.C_drewN ?_ _) | (with_reducible refine Kd.C_drew ?_))); (case side6 => exact HC0_2.out); (case side7 => repeat (first | exact (Kd.R_reads' HO278.out).2.2 | (with_reducible refine Kd.C_alloc ?_ _) | (with_reducible refine Kd.C_drewN ?_ _) | (with_reducible refine Kd.C_drew ?_))); (case side8 => exact (Kd.R_reads' HO278.out).2.1); rintro e w63 ⟨v280, rfl, ho0, hb⟩; have n0_ := Aside0.mk (Kd.R_elder' (by (with_reducible repeat (first | apply Kd.R_alloc | apply Kd.R_drewN | apply Kd.R_drew)); exact HO_7.out) (Kd.R_base ho0) hb); have n1_ := Aside0.mk (Kd.R_below (by (with_reducible repeat (first | apply Kd.R_alloc | apply Kd.R_drewN | apply Kd.R_drew)); exact HO278.out) hb); have n2_ := Aside0.mk (Kd.R_lower (Kd.R_new' ho0 (Kd.R_lt (by (with_reducible repeat (first | apply Kd.R_alloc | apply Kd.R_drewN | apply Kd.R_drew)); exact HO_7.out))) (below_size (by repeat (first | (with_reducible first | exact HB.out | apply below_alloc | apply pw_below_drewN | apply below_drew1 | refine below_set ?_ GE258.out | refine below_set ?_ GE259.out | refine below_set ?_ GE260.out) | exact HB.out)))); have n3_ := Aside0.mk (blk_below (by (with_reducible repeat first | apply blk_drewN | apply blk_drew | apply blk_alloc); exact BK258.out) hb); have n4_ := Aside0.mk (blk_below (by (with_reducible repeat first | apply blk_drewN | apply blk_drew | apply blk_alloc); exact BK259.out) hb); have n5_ := Aside0.mk (blk_below (by (with_reducible repeat first | apply blk_drewN | apply blk_drew | apply blk_alloc); exact BK260.out) hb); have n6_ := Aside0.mk (below_step (by repeat (first | (with_reducible first | exact HB.out | apply below_alloc | apply pw_below_drewN | apply below_drew1 | refine below_set ?_ GE258.out | refine below_set ?_ GE259.out | refine below_set ?_ GE260.out) | exact HB.out)) hb); clear HO_7 HO278 BK258 BK259 BK260 HB; have HO_7 := n0_; have HO278 := n1_; have HO281 := n2_; have BK258 := n3_; have BK259 := n4_; have BK260 := n5_; have HB := n6_; clear n0_ n1_ n2_ n3_ n4_ n5_ n6_; (try clear hb); (try clear hb2); (try clear hk); (try clear hi); (try clear ho0); have hcz64_0 : w63.cell? ⟨gb258, 0, none⟩ = some (.slice A0_0 l0_0.length c0_0) := (blk_cell BK258.out 0).trans rfl; have hcz64_1 : w63.cell? ⟨gb258, 1, none⟩ = some (.slice A0_1 l0_1.length c0_1) := (blk_cell BK258.out 1).trans rfl; have hcz64_2 : w63.cell? ⟨gb258, 2, none⟩ = some (.slice A0_2 l0_2.length c0_2) := (blk_cell BK258.out 2).trans rfl; have hfz64_0 := blk_frozen BK258.out 0; have hfz64_1 := blk_frozen BK258.out 1; have hfz64_2 := blk_frozen BK258.out 2; have hcz65_0 : w63.cell? ⟨gb260, 0, none⟩ = some (.int .i64 a2_0) := (blk_cell BK260.out 0).trans rfl; have hcz65_1 : w63.cell? ⟨gb260, 1, none⟩ = some (.int .i64 a2_1) := (blk_cell BK260.out 1).trans rfl; have hcz65_2 : w63.cell? ⟨gb260, 2, none⟩ = some (.int .i64 a2_2) := (blk_cell BK260.out 2).trans rfl; have hcz65_3 : w63.cell? ⟨gb260, 3, none⟩ = some (.int .i64 a2_3) := (blk_cell BK260.out 3).trans rfl; have hfz65_0 := blk_frozen BK260.out 0; have hfz65_1 := blk_frozen BK260.out 1; have hfz65_2 := blk_frozen BK260.out 2; have hfz65_3 := blk_frozen BK260.out 3) | ((with_reducible refine gate_dst (N := 76) rfl ?_); (try (refine gate_guard (by rfl) ?_; dsimp only)); refine Kd.R_lit k43 _ 43 ?hg (N := 76) ?hd (xs := ([(⟨a2_0, a2_1, a2_2, a2_3⟩ : S43)] : List (S43))) (inner := [.int .i64 a2_0, .int .i64 a2_1, .int .i64 a2_2, .int .i64 a2_3]) (ok := fun _ => True) (okp := fun _ => True) ?hr ?hp (fun _ hk => hk) trivial (Below.refl _ _) (Nat.le_refl _) (by simp) ?_; (case hd => rfl); (case hg => rfl); (case hr => first | (go_simp; done) | (go_simp; rfl)); (case hp => exact (Reps.c4 (show Kd.M k43 _ _ _ (⟨a2_0, a2_1, a2_2, a2_3⟩ : S43) [.int .i64 a2_0, .int .i64 a2_1, .int .i64 a2_2, .int .i64 a2_3] from (k43_mkM _ _ _ (⟨a2_0, a2_1, a2_2, a2_3⟩ : S43) )) (Reps.none _ _))); intro v284 w66 ho67 hb hg_ hnew_; clear hg_ hnew_; (first | rw [← Ny283.out] at ho67 | (simp only [Int.reduceToNat] at ho67; rw [← Ny283.out] at ho67)); have n0_ := Aside0.mk (Kd.R_below (by (with_reducible repeat (first | apply Kd.R_alloc | apply Kd.R_drewN | apply Kd.R_drew)); exact HO_7.out) hb); have n1_ := Aside0.mk (Kd.R_elder' (by (with_reducible repeat (first | apply Kd.R_alloc | apply Kd.R_drewN | apply Kd.R_drew)); exact HO278.out) (Kd.R_base ho67) hb); have n2_ := Aside0.mk (Kd.R_below (by (with_reducible repeat (first | apply Kd.R_alloc | apply Kd.R_drewN | apply Kd.R_drew)); exact HO281.out) hb); have n3_ := Aside0.mk (Kd.R_lower (Kd.R_newB (Kd.R_new' ho67 (Kd.R_lt (by (with_reducible repeat (first | apply Kd.R_alloc | apply Kd.R_drewN | apply Kd.R_drew)); exact HO278.out))) (by (with_reducible repeat first | apply blk_drewN | apply blk_drew | apply blk_alloc); exact BK260.out)) (below_size (by repeat (first | (with_reducible first | exact HB.out | apply below_alloc | apply pw_below_drewN | apply below_drew1 | refine below_set ?_ GE258.out | refine below_set ?_ GE259.out | refine below_set ?_ GE260.out) | exact HB.out)))); have n4_ := Aside0.mk (blk_below (by (with_reducible repeat first | apply blk_drewN | apply blk_drew | apply blk_alloc); exact BK258.out) hb); have n5_ := Aside0.mk (blk_below (by (with_reducible repeat first | apply blk_drewN | apply blk_drew | apply blk_alloc); exact BK259.out) hb); have n6_ := Aside0.mk (blk_below (by (with_reducible repeat first | apply blk_drewN | apply blk_drew | apply blk_alloc); exact BK260.out) hb); have n7_ := Aside0.mk (below_step (by repeat (first | (with_reducible first | exact HB.out | apply below_alloc | apply pw_below_drewN | apply below_drew1 | refine below_set ?_ GE258.out | refine below_set ?_ GE259.out | refine below_set ?_ GE260.out) | exact HB.out)) hb); clear HO_7 HO278 HO281 BK258 BK259 BK260 HB; have HO_7 := n0_; have HO278 := n1_; have HO281 := n2_; have HO285 := n3_; have BK258 := n4_; have BK259 := n5_; have BK260 := n6_; have HB := n7_; clear n0_ n1_ n2_ n3_ n4_ n5_ n6_ n7_ hb ho67; have hcz68_0 : w66.cell? ⟨gb259, 0, none⟩ = some (.slice A1_0 l1_0.length c1_0) := (blk_cell BK259.out 0).trans rfl; have hcz68_1 : w66.cell? ⟨gb259, 1, none⟩ = some (.slice A1_1 l1_1.length c1_1) := (blk_cell BK259.out 1).trans rfl; have hcz68_2 : w66.cell? ⟨gb259, 2, none⟩ = some (.int .i64 a1_2) := (blk_cell BK259.out 2).trans rfl; have hfz68_0 := blk_frozen BK259.out 0; have hfz68_1 := blk_frozen BK259.out 1; have hfz68_2 := blk_frozen BK259.out 2; obtain ⟨Ao69, co69, eo69⟩ := Kd.R_slice HO285.out; subst eo69) | (go_at_call 12; (with_reducible refine (traffic_Weights.calls k3 _ _ l0_0 _ _ l0_1 _ _ l0_2 _ _ y283 a1_2 t286 t289 _ ?side1 ?side2 ?side3 ?side4 ?side5 ?side6 ?side7 ?side8 A52.out).mono ?_); (case side1 => repeat (first | exact (Kd.C_below HR0_0.out HB.out) | (with_reducible refine Kd.C_alloc ?_ _) | (with_reducible refine Kd.C_drewN ?_ _) | (with_reducible refine Kd.C_drew ?_))); (case side2 => exact HC0_0.out); (case side3 => repeat (first | exact (Kd.C_below HR0_1.out HB.out) | (with_reducible refine Kd.C_alloc ?_ _) | (with_reducible refine Kd.C_drewN ?_ _) | (with_reducible refine Kd.C_drew ?_))); (case side4 => exact HC0_1.out); (case side5 => repeat (first | exact (Kd.C_below HR0_2.out HB.out) | (with_reducible refine Kd.C_alloc ?_ _) | (with_reducible refine Kd.C_drewN ?_ _) | (with_reducible refine Kd.C_drew ?_))); (case side6 => exact HC0_2.out); (case side7 => repeat (first | exact (Kd.R_reads' HO285.out).2.2 | (with_reducible refine Kd.C_alloc ?_ _) | (with_reducible refine Kd.C_drewN ?_ _) | (with_reducible refine Kd.C_drew ?_))); (case side8 => exact (Kd.R_reads' HO285.out).2.1); rintro e w70 ⟨v287, rfl, ho0, hb⟩; have n0_ := Aside0.mk (Kd.R_elder' (by (with_reducible repeat (first | apply Kd.R_alloc | apply Kd.R_drewN | apply Kd.R_drew)); exact HO_7.out) (Kd.R_base ho0) hb); have n1_ := Aside0.mk (Kd.R_below (by (with_reducible repeat (first | apply Kd.R_alloc | apply Kd.R_drewN | apply Kd.R_drew)); exact HO278.out) hb); have n2_ := Aside0.mk (Kd.R_elder' (by (with_reducible repeat (first | apply Kd.R_alloc | apply Kd.R_drewN | apply Kd.R_drew)); exact HO281.out) (Kd.R_base ho0) hb); have n3_ := Aside0.mk (Kd.R_below (by (with_reducible repeat (first | apply Kd.R_alloc | apply Kd.R_drewN | apply Kd.R_drew)); exact HO285.out) hb); have n4_ := Aside0.mk (Kd.R_lower (Kd.R_new' (Kd.R_new' ho0 (Kd.R_lt (by (with_reducible repeat (first | apply Kd.R_alloc | apply Kd.R_drewN | apply Kd.R_drew)); exact HO_7.out))) (Kd.R_lt (by (with_reducible repeat (first | apply Kd.R_alloc | apply Kd.R_drewN | apply Kd.R_drew)); exact HO281.out))) (below_size (by repeat (first | (with_reducible first | exact HB.out | apply below_alloc | apply pw_below_drewN | apply below_drew1 | refine below_set ?_ GE258.out | refine below_set ?_ GE259.out | refine below_set ?_ GE260.out) | exact HB.out)))); have n5_ := Aside0.mk (blk_below (by (with_reducible repeat first | apply blk_drewN | apply blk_drew | apply blk_alloc); exact BK258.out) hb); have n6_ := Aside0.mk (blk_below (by (with_reducible repeat first | apply blk_drewN | apply blk_drew | apply blk_alloc); exact BK259.out) hb); have n7_ := Aside0.mk (blk_below (by (with_reducible repeat first | apply blk_drewN | apply blk_drew | apply blk_alloc); exact BK260.out) hb); have n8_ := Aside0.mk (below_step (by repeat (first | (with_reducible first | exact HB.out | apply below_alloc | apply pw_below_drewN | apply below_drew1 | refine below_set ?_ GE258.out | refine below_set ?_ GE259.out | refine below_set ?_ GE260.out) | exact HB.out)) hb); clear HO_7 HO278 HO281 HO285 BK258 BK259 BK260 HB; have HO_7 := n0_; have HO278 := n1_; have HO281 := n2_; have HO285 := n3_; have HO288 := n4_; have BK258 := n5_; have BK259 := n6_; have BK260 := n7_; have HB := n8_; clear n0_ n1_ n2_ n3_ n4_ n5_ n6_ n7_ n8_; (try clear hb); (try clear hb2); (try clear hk); (try clear hi); (try clear ho0))))
           (try simp only [Act.put, List.setIfInBounds_toArray, List.set_cons_zero, List.set_cons_succ])
           go_cut [109] (fun v109 wc => ∃ (kq : Nat) (x109_52 : Bool), v109 = .bool x109_52 ∧ Aside0 (mapmakerlaw48_TrafficLast.j3 kq t263 t279 t286 x109_52 l0_0 l0_1 l0_2 l1_0 l1_1 a1_2 a2_0 a2_1 a2_2 a2_3 = some r) ∧ Aside0 (kq ≤ k3) ∧ Aside0 (Kd.R (Kd.int .i64) 3 wc w.heap.size (fun k_ => some k_ ≠ (v280 : Value).ownBlock ∧ some k_ ≠ (v287 : Value).ownBlock) v264 t263) ∧ Aside0 (Kd.R (Kd.int .i64) 3 wc w.heap.size (fun k_ => some k_ ≠ (v264 : Value).ownBlock ∧ some k_ ≠ (v287 : Value).ownBlock) v280 t279) ∧ Aside0 (Kd.R (Kd.int .i64) 3 wc w.heap.size (fun k_ => some k_ ≠ (v264 : Value).ownBlock ∧ some k_ ≠ (v280 : Value).ownBlock) v287 t286) ∧ Aside0 (wc.heap[gb258]? = some (.cells #[(.slice A0_0 l0_0.length c0_0), (.slice A0_1 l0_1.length c0_1), (.slice A0_2 l0_2.length c0_2)] 32 (0, 0))) ∧ Aside0 (wc.heap[gb259]? = some (.cells #[(.slice A1_0 l1_0.length c1_0), (.slice A1_1 l1_1.length c1_1), .int .i64 a1_2] 41 (0, 0))) ∧ Aside0 (wc.heap[gb260]? = some (.cells #[.int .i64 a2_0, .int .i64 a2_1, .int .i64 a2_2, .int .i64 a2_3] 43 (0, 0))) ∧ Aside0 (Below w.heap.size w wc))
           case first =>
            have H := HC53.out
            clear HC53
            by_cases c71 : t282 = 0
            ·rw [if_pos c71] at H
             have c71b0 : (t282 == 0) = true := beq_iff_eq.mpr c71
             have c71b1 : (t282 != 0) = false := bne_eq_false_iff_eq.mpr c71
             clear c71
             (first | rw [c71b0] | (simp only [i64_w, i32_w]; rw [c71b0]) | skip)
             by_cases c72 : t289 = 0
             ·rw [if_pos c72] at H
              have c72b0 : (t289 == 0) = true := beq_iff_eq.mpr c72
              have c72b1 : (t289 != 0) = false := bne_eq_false_iff_eq.mpr c72
              clear c72
              by_cases c73 : (t263.length : Int) = (t279.length : Int)
              ·rw [if_pos c73] at H
               have c73b0 : ((t263.length : Int) == (t279.length : Int)) = true := beq_iff_eq.mpr c73
               have c73b1 : ((t263.length : Int) != (t279.length : Int)) = false := bne_eq_false_iff_eq.mpr c73
               have c73b2 : (t263.length == t279.length) = true := by first | simpa using c73 | (simp at c73 ⊢; omega)
               clear c73
               by_cases c74 : (t263.length : Int) = (t286.length : Int)
               ·rw [if_pos c74] at H
                have c74b0 : ((t263.length : Int) == (t286.length : Int)) = true := beq_iff_eq.mpr c74
                have c74b1 : ((t263.length : Int) != (t286.length : Int)) = false := bne_eq_false_iff_eq.mpr c74
                have c74b2 : (t263.length == t286.length) = true := by first | simpa using c74 | (simp at c74 ⊢; omega)
                clear c74
                have H' := Aside0.mk H
                clear H
                obtain ⟨Ao75, co75, eo75⟩ := Kd.R_slice HO_7.out
                subst eo75
                obtain ⟨Ao76, co76, eo76⟩ := Kd.R_slice HO281.out
                subst eo76
                obtain ⟨Ao77, co77, eo77⟩ := Kd.R_slice HO288.out
                subst eo77
                have hnb78 := NB258_259.out
                have hnc78 := NB259_258.out
                have hnb79 := NB258_260.out
                have hnc79 := NB260_258.out
                have hcz80_0 : w70.cell? ⟨gb258, 0, none⟩ = some (.slice A0_0 l0_0.length c0_0) := (blk_cell BK258.out 0).trans rfl
                have hcz80_1 : w70.cell? ⟨gb258, 1, none⟩ = some (.slice A0_1 l0_1.length c0_1) := (blk_cell BK258.out 1).trans rfl
                have hcz80_2 : w70.cell? ⟨gb258, 2, none⟩ = some (.slice A0_2 l0_2.length c0_2) := (blk_cell BK258.out 2).trans rfl
                have hfz80_0 := blk_frozen BK258.out 0
                have hfz80_1 := blk_frozen BK258.out 1
                have hfz80_2 := blk_frozen BK258.out 2
                go_wp2
                repeat (go_quiet (fail); try go_wp2)
                go_meet
                case rel => exact ⟨_, (((t263.length : Int) != (l0_2.length : Int))), (by first | rfl | (simp; done) | (simp [*]; done)), H', ⟨by have := HJ3.out; have := HJ23.out; have := HK3.out; first | omega | exact Nat.le_refl _⟩, ⟨by (with_reducible repeat (first | apply Kd.R_alloc | apply Kd.R_drewN | apply Kd.R_drew)); exact Kd.R_mono HO_7.out (fun _ hk => ⟨hk.1.2, hk.2⟩)⟩, ⟨by (with_reducible repeat (first | apply Kd.R_alloc | apply Kd.R_drewN | apply Kd.R_drew)); exact Kd.R_mono HO281.out (fun _ hk => ⟨hk.1.2, hk.2⟩)⟩, ⟨by (with_reducible repeat (first | apply Kd.R_alloc | apply Kd.R_drewN | apply Kd.R_drew)); exact Kd.R_mono HO288.out (fun _ hk => ⟨hk.1.2, hk.2⟩)⟩, ⟨by (with_reducible repeat first | apply blk_drewN | apply blk_drew | apply blk_alloc); exact BK258.out⟩, ⟨by (with_reducible repeat first | apply blk_drewN | apply blk_drew | apply blk_alloc); exact BK259.out⟩, ⟨by (with_reducible repeat first | apply blk_drewN | apply blk_drew | apply blk_alloc); exact BK260.out⟩, ⟨by repeat (first | (with_reducible first | exact HB.out | apply below_alloc | apply pw_below_drewN | apply below_drew1 | refine below_set ?_ GE258.out | refine below_set ?_ GE259.out | refine below_set ?_ GE260.out) | exact HB.out)⟩⟩
               ·rw [if_neg c74] at H
                exact absurd H (by simp)
              ·rw [if_neg c73] at H
               exact absurd H (by simp)
             ·rw [if_neg c72] at H
              exact absurd H (by simp)
            ·rw [if_neg c71] at H
             exact absurd H (by simp)
           case rest =>
            clear HC53
            try clear c1
            try clear c2
            try clear p2
            try clear q2
            try clear hx2
            try clear c3
            try clear c4
            try clear c5
            try clear p6
            try clear c7
            try clear c9
            try clear c10
            try clear c11
            try clear c14
            try clear c16
            try clear c17
            try clear c20
            try clear c25
            try clear c26
            try clear p27
            try clear q27
            try clear hx27
            try clear c28
            try clear c31
            try clear c31b0
            try clear c31b1
            try clear c33
            try clear c34
            try clear c40
            try clear c43
            try clear c43b0
            try clear c44
            try clear c44b0
            try clear c45
            try clear c46
            try clear c47
            try clear c50
            try clear c54
            try clear c55
            try clear c57
            try clear p64
            try clear c71
            try clear c71b0
            try clear c71b1
            try clear c72
            try clear c72b0
            try clear c72b1
            try clear c73
            try clear c73b0
            try clear c73b1
            try clear c73b2
            try clear c74
            try clear c74b0
            try clear c74b1
            try clear c74b2
            try clear c78
            try clear c79
            try clear hcz12_0
            try clear hcz12_1
            try clear hcz12_2
            try clear hcz15_0
            try clear hcz15_1
            try clear hcz15_2
            try clear hcz18_0
            try clear hcz18_1
            try clear hcz18_2
            try clear hcz27_0
            try clear hcz27_1
            try clear hcz27_2
            try clear hcz29_0
            try clear hcz29_1
            try clear hcz29_2
            try clear hcz35_0
            try clear hcz35_1
            try clear hcz35_2
            try clear hcz35_3
            try clear hcz48_0
            try clear hcz48_1
            try clear hcz48_2
            try clear hcz56_0
            try clear hcz56_1
            try clear hcz56_2
            try clear hcz58_0
            try clear hcz58_1
            try clear hcz58_2
            try clear hcz58_3
            try clear hcz60_0
            try clear hcz60_1
            try clear hcz60_2
            try clear hcz61_0
            try clear hcz61_1
            try clear hcz61_2
            try clear hcz64_0
            try clear hcz64_1
            try clear hcz64_2
            try clear hcz65_0
            try clear hcz65_1
            try clear hcz65_2
            try clear hcz65_3
            try clear hcz68_0
            try clear hcz68_1
            try clear hcz68_2
            try clear hcz80_0
            try clear hcz80_1
            try clear hcz80_2
            try clear hfz12_0
            try clear hfz12_1
            try clear hfz12_2
            try clear hfz15_0
            try clear hfz15_1
            try clear hfz15_2
            try clear hfz18_0
            try clear hfz18_1
            try clear hfz18_2
            try clear hfz27_0
            try clear hfz27_1
            try clear hfz27_2
            try clear hfz29_0
            try clear hfz29_1
            try clear hfz29_2
            try clear hfz35_0
            try clear hfz35_1
            try clear hfz35_2
            try clear hfz35_3
            try clear hfz48_0
            try clear hfz48_1
            try clear hfz48_2
            try clear hfz56_0
            try clear hfz56_1
            try clear hfz56_2
            try clear hfz58_0
            try clear hfz58_1
            try clear hfz58_2
            try clear hfz58_3
            try clear hfz60_0
            try clear hfz60_1
            try clear hfz60_2
            try clear hfz61_0
            try clear hfz61_1
            try clear hfz61_2
            try clear hfz64_0
            try clear hfz64_1
            try clear hfz64_2
            try clear hfz65_0
            try clear hfz65_1
            try clear hfz65_2
            try clear hfz65_3
            try clear hfz68_0
            try clear hfz68_1
            try clear hfz68_2
            try clear hfz80_0
            try clear hfz80_1
            try clear hfz80_2
            try clear hx272_0
            try clear hx272_1
            try clear hx272_2
            try clear hx272_3
            try clear p2
            try clear p272
            try clear q272
            obtain ⟨kq, x109_52, rfl, HA, HJ52, HO_7, HO_11, HO_13, BK258, BK259, BK260, HB⟩ := hcut
            cases kq with
            | zero => exact absurd HA.out (by simp [mapmakerlaw48_TrafficLast.j3])
            | succ kj52 =>
             have H := HA.out
             clear HA
             simp only [mapmakerlaw48_TrafficLast.j3] at H
             by_cases c81 : x109_52 = true
             ·subst c81
              have H1 : (none) = some r := by rw [if_pos rfl] at H; exact H
              clear H
              have H := H1
              clear H1
              exact absurd H (by simp)
             ·replace c81 := Bool.eq_false_iff.mpr c81
              subst c81
              have H1 : (if a2_2 ≤ a1_2 then (mapmakerlaw48_TrafficLast.j4 kj52 t263 t279 t286 (decide (a1_2 < a2_3)) l0_0 l0_1 l0_2 a2_0 a2_1 a2_2 a2_3) else (mapmakerlaw48_TrafficLast.j4 kj52 t263 t279 t286 false l0_0 l0_1 l0_2 a2_0 a2_1 a2_2 a2_3)) = some r := by rw [if_neg (show ¬ (false = true) by decide)] at H; exact H
              clear H
              have H := H1
              clear H1
              have HC82 := Aside0.mk H
              clear H
              go_upto_region 16 with (fail)
              repeat (go_quiet (fail); go_upto_region 16 with (fail))
              go_cut [15] (fun v15 wc => ∃ (kq : Nat) (x15_81 : Bool), v15 = .bool x15_81 ∧ Aside0 (mapmakerlaw48_TrafficLast.j4 kq t263 t279 t286 x15_81 l0_0 l0_1 l0_2 a2_0 a2_1 a2_2 a2_3 = some r) ∧ Aside0 (kq ≤ kj52) ∧ Aside0 (Kd.R (Kd.int .i64) 3 wc w.heap.size (fun k_ => some k_ ≠ (v280 : Value).ownBlock ∧ some k_ ≠ (v287 : Value).ownBlock) v264 t263) ∧ Aside0 (Kd.R (Kd.int .i64) 3 wc w.heap.size (fun k_ => some k_ ≠ (v264 : Value).ownBlock ∧ some k_ ≠ (v287 : Value).ownBlock) v280 t279) ∧ Aside0 (Kd.R (Kd.int .i64) 3 wc w.heap.size (fun k_ => some k_ ≠ (v264 : Value).ownBlock ∧ some k_ ≠ (v280 : Value).ownBlock) v287 t286) ∧ Aside0 (wc.heap[gb258]? = some (.cells #[(.slice A0_0 l0_0.length c0_0), (.slice A0_1 l0_1.length c0_1), (.slice A0_2 l0_2.length c0_2)] 32 (0, 0))) ∧ Aside0 (wc.heap[gb259]? = some (.cells #[(.slice A1_0 l1_0.length c1_0), (.slice A1_1 l1_1.length c1_1), .int .i64 a1_2] 41 (0, 0))) ∧ Aside0 (wc.heap[gb260]? = some (.cells #[.int .i64 a2_0, .int .i64 a2_1, .int .i64 a2_2, .int .i64 a2_3] 43 (0, 0))) ∧ Aside0 (Below w.heap.size w wc))
              case first =>
               have H := HC82.out
               clear HC82
               by_cases c83 : a2_2 ≤ a1_2
               ·rw [if_pos c83] at H
                have c83b0 : decide (a2_2 ≤ a1_2) = true := decide_eq_true c83
                clear c83
                (first | rw [c83b0] | (simp only [i64_w, i32_w]; rw [c83b0]) | skip)
                have H' := Aside0.mk H
                clear H
                have hnb84 := NB260_258.out
                have hnc84 := NB258_260.out
                have hnb85 := NB260_259.out
                have hnc85 := NB259_260.out
                have hcz86_0 : wc.cell? ⟨gb260, 0, none⟩ = some (.int .i64 a2_0) := (blk_cell BK260.out 0).trans rfl
                have hcz86_1 : wc.cell? ⟨gb260, 1, none⟩ = some (.int .i64 a2_1) := (blk_cell BK260.out 1).trans rfl
                have hcz86_2 : wc.cell? ⟨gb260, 2, none⟩ = some (.int .i64 a2_2) := (blk_cell BK260.out 2).trans rfl
                have hcz86_3 : wc.cell? ⟨gb260, 3, none⟩ = some (.int .i64 a2_3) := (blk_cell BK260.out 3).trans rfl
                have hfz86_0 := blk_frozen BK260.out 0
                have hfz86_1 := blk_frozen BK260.out 1
                have hfz86_2 := blk_frozen BK260.out 2
                have hfz86_3 := blk_frozen BK260.out 3
                have hnb87 := NB259_258.out
                have hnc87 := NB258_259.out
                have hcz88_0 : wc.cell? ⟨gb259, 0, none⟩ = some (.slice A1_0 l1_0.length c1_0) := (blk_cell BK259.out 0).trans rfl
                have hcz88_1 : wc.cell? ⟨gb259, 1, none⟩ = some (.slice A1_1 l1_1.length c1_1) := (blk_cell BK259.out 1).trans rfl
                have hcz88_2 : wc.cell? ⟨gb259, 2, none⟩ = some (.int .i64 a1_2) := (blk_cell BK259.out 2).trans rfl
                have hfz88_0 := blk_frozen BK259.out 0
                have hfz88_1 := blk_frozen BK259.out 1
                have hfz88_2 := blk_frozen BK259.out 2
                go_wp2
                repeat (go_quiet (fail); try go_wp2)
                go_meet
                case rel => exact ⟨_, (decide (a1_2 < a2_3)), (by first | rfl | (simp; done) | (simp [*]; done)), H', ⟨by have := HJ3.out; have := HJ23.out; have := HK3.out; have := HJ52.out; first | omega | exact Nat.le_refl _⟩, ⟨by (with_reducible repeat (first | apply Kd.R_alloc | apply Kd.R_drewN | apply Kd.R_drew)); exact HO_7.out⟩, ⟨by (with_reducible repeat (first | apply Kd.R_alloc | apply Kd.R_drewN | apply Kd.R_drew)); exact HO_11.out⟩, ⟨by (with_reducible repeat (first | apply Kd.R_alloc | apply Kd.R_drewN | apply Kd.R_drew)); exact HO_13.out⟩, ⟨by (with_reducible repeat first | apply blk_drewN | apply blk_drew | apply blk_alloc); exact BK258.out⟩, ⟨by (with_reducible repeat first | apply blk_drewN | apply blk_drew | apply blk_alloc); exact BK259.out⟩, ⟨by (with_reducible repeat first | apply blk_drewN | apply blk_drew | apply blk_alloc); exact BK260.out⟩, ⟨by repeat (first | (with_reducible first | exact HB.out | apply below_alloc | apply pw_below_drewN | apply below_drew1 | refine below_set ?_ GE258.out | refine below_set ?_ GE259.out | refine below_set ?_ GE260.out) | exact HB.out)⟩⟩
               ·rw [if_neg c83] at H
                have c83b0 : decide (a2_2 ≤ a1_2) = false := decide_eq_false c83
                clear c83
                (first | rw [c83b0] | (simp only [i64_w, i32_w]; rw [c83b0]) | skip)
                have H' := Aside0.mk H
                clear H
                have hnb89 := NB260_258.out
                have hnc89 := NB258_260.out
                have hnb90 := NB260_259.out
                have hnc90 := NB259_260.out
                have hcz91_0 : wc.cell? ⟨gb260, 0, none⟩ = some (.int .i64 a2_0) := (blk_cell BK260.out 0).trans rfl
                have hcz91_1 : wc.cell? ⟨gb260, 1, none⟩ = some (.int .i64 a2_1) := (blk_cell BK260.out 1).trans rfl
                have hcz91_2 : wc.cell? ⟨gb260, 2, none⟩ = some (.int .i64 a2_2) := (blk_cell BK260.out 2).trans rfl
                have hcz91_3 : wc.cell? ⟨gb260, 3, none⟩ = some (.int .i64 a2_3) := (blk_cell BK260.out 3).trans rfl
                have hfz91_0 := blk_frozen BK260.out 0
                have hfz91_1 := blk_frozen BK260.out 1
                have hfz91_2 := blk_frozen BK260.out 2
                have hfz91_3 := blk_frozen BK260.out 3
                have hnb92 := NB259_258.out
                have hnc92 := NB258_259.out
                have hcz93_0 : wc.cell? ⟨gb259, 0, none⟩ = some (.slice A1_0 l1_0.length c1_0) := (blk_cell BK259.out 0).trans rfl
                have hcz93_1 : wc.cell? ⟨gb259, 1, none⟩ = some (.slice A1_1 l1_1.length c1_1) := (blk_cell BK259.out 1).trans rfl
                have hcz93_2 : wc.cell? ⟨gb259, 2, none⟩ = some (.int .i64 a1_2) := (blk_cell BK259.out 2).trans rfl
                have hfz93_0 := blk_frozen BK259.out 0
                have hfz93_1 := blk_frozen BK259.out 1
                have hfz93_2 := blk_frozen BK259.out 2
                go_wp2
                repeat (go_quiet (fail); try go_wp2)
                go_meet
                case rel => exact ⟨_, (false), (by first | rfl | (simp; done) | (simp [*]; done)), H', ⟨by have := HJ3.out; have := HJ23.out; have := HK3.out; have := HJ52.out; first | omega | exact Nat.le_refl _⟩, ⟨by (with_reducible repeat (first | apply Kd.R_alloc | apply Kd.R_drewN | apply Kd.R_drew)); exact HO_7.out⟩, ⟨by (with_reducible repeat (first | apply Kd.R_alloc | apply Kd.R_drewN | apply Kd.R_drew)); exact HO_11.out⟩, ⟨by (with_reducible repeat (first | apply Kd.R_alloc | apply Kd.R_drewN | apply Kd.R_drew)); exact HO_13.out⟩, ⟨by (with_reducible repeat first | apply blk_drewN | apply blk_drew | apply blk_alloc); exact BK258.out⟩, ⟨by (with_reducible repeat first | apply blk_drewN | apply blk_drew | apply blk_alloc); exact BK259.out⟩, ⟨by (with_reducible repeat first | apply blk_drewN | apply blk_drew | apply blk_alloc); exact BK260.out⟩, ⟨by repeat (first | (with_reducible first | exact HB.out | apply below_alloc | apply pw_below_drewN | apply below_drew1 | refine below_set ?_ GE258.out | refine below_set ?_ GE259.out | refine below_set ?_ GE260.out) | exact HB.out)⟩⟩
              case rest =>
               clear HC82
               try clear c1
               try clear c2
               try clear p2
               try clear q2
               try clear hx2
               try clear c3
               try clear c4
               try clear c5
               try clear p6
               try clear c7
               try clear c8
               try clear c9
               try clear c10
               try clear c11
               try clear c14
               try clear c16
               try clear c17
               try clear c20
               try clear c25
               try clear c26
               try clear p27
               try clear q27
               try clear hx27
               try clear c28
               try clear c31
               try clear c31b0
               try clear c31b1
               try clear c33
               try clear c34
               try clear c40
               try clear c43
               try clear c43b0
               try clear c44
               try clear c44b0
               try clear c45
               try clear c46
               try clear c47
               try clear c50
               try clear c54
               try clear c55
               try clear c57
               try clear p64
               try clear c71
               try clear c71b0
               try clear c71b1
               try clear c72
               try clear c72b0
               try clear c72b1
               try clear c73
               try clear c73b0
               try clear c73b1
               try clear c73b2
               try clear c74
               try clear c74b0
               try clear c74b1
               try clear c74b2
               try clear c78
               try clear c79
               try clear c81
               try clear c83
               try clear c83b0
               try clear c84
               try clear c85
               try clear c87
               try clear c89
               try clear c90
               try clear c92
               try clear hcz12_0
               try clear hcz12_1
               try clear hcz12_2
               try clear hcz15_0
               try clear hcz15_1
               try clear hcz15_2
               try clear hcz18_0
               try clear hcz18_1
               try clear hcz18_2
               try clear hcz27_0
               try clear hcz27_1
               try clear hcz27_2
               try clear hcz29_0
               try clear hcz29_1
               try clear hcz29_2
               try clear hcz35_0
               try clear hcz35_1
               try clear hcz35_2
               try clear hcz35_3
               try clear hcz48_0
               try clear hcz48_1
               try clear hcz48_2
               try clear hcz56_0
               try clear hcz56_1
               try clear hcz56_2
               try clear hcz58_0
               try clear hcz58_1
               try clear hcz58_2
               try clear hcz58_3
               try clear hcz60_0
               try clear hcz60_1
               try clear hcz60_2
               try clear hcz61_0
               try clear hcz61_1
               try clear hcz61_2
               try clear hcz64_0
               try clear hcz64_1
               try clear hcz64_2
               try clear hcz65_0
               try clear hcz65_1
               try clear hcz65_2
               try clear hcz65_3
               try clear hcz68_0
               try clear hcz68_1
               try clear hcz68_2
               try clear hcz80_0
               try clear hcz80_1
               try clear hcz80_2
               try clear hcz86_0
               try clear hcz86_1
               try clear hcz86_2
               try clear hcz86_3
               try clear hcz88_0
               try clear hcz88_1
               try clear hcz88_2
               try clear hcz91_0
               try clear hcz91_1
               try clear hcz91_2
               try clear hcz91_3
               try clear hcz93_0
               try clear hcz93_1
               try clear hcz93_2
               try clear hfz12_0
               try clear hfz12_1
               try clear hfz12_2
               try clear hfz15_0
               try clear hfz15_1
               try clear hfz15_2
               try clear hfz18_0
               try clear hfz18_1
               try clear hfz18_2
               try clear hfz27_0
               try clear hfz27_1
               try clear hfz27_2
               try clear hfz29_0
               try clear hfz29_1
               try clear hfz29_2
               try clear hfz35_0
               try clear hfz35_1
               try clear hfz35_2
               try clear hfz35_3
               try clear hfz48_0
               try clear hfz48_1
               try clear hfz48_2
               try clear hfz56_0
               try clear hfz56_1
               try clear hfz56_2
               try clear hfz58_0
               try clear hfz58_1
               try clear hfz58_2
               try clear hfz58_3
               try clear hfz60_0
               try clear hfz60_1
               try clear hfz60_2
               try clear hfz61_0
               try clear hfz61_1
               try clear hfz61_2
               try clear hfz64_0
               try clear hfz64_1
               try clear hfz64_2
               try clear hfz65_0
               try clear hfz65_1
               try clear hfz65_2
               try clear hfz65_3
               try clear hfz68_0
               try clear hfz68_1
               try clear hfz68_2
               try clear hfz80_0
               try clear hfz80_1
               try clear hfz80_2
               try clear hfz86_0
               try clear hfz86_1
               try clear hfz86_2
               try clear hfz86_3
               try clear hfz88_0
               try clear hfz88_1
               try clear hfz88_2
               try clear hfz91_0
               try clear hfz91_1
               try clear hfz91_2
               try clear hfz91_3
               try clear hfz93_0
               try clear hfz93_1
               try clear hfz93_2
               try clear hx272_0
               try clear hx272_1
               try clear hx272_2
               try clear hx272_3
               try clear p2
               try clear p27
               try clear p272
               try clear p6
               try clear p64
               try clear q2
               try clear q27
               try clear q272
               obtain ⟨kq, x15_81, rfl, HA, HJ81, HO_7, HO_11, HO_13, BK258, BK259, BK260, HB⟩ := hcut
               cases kq with
               | zero => exact absurd HA.out (by simp [mapmakerlaw48_TrafficLast.j4])
               | succ kj81 =>
                have H := HA.out
                clear HA
                simp only [mapmakerlaw48_TrafficLast.j4] at H
                have H' := Aside0.mk H
                clear H
                go_wp2
                repeat (go_quiet (fail); try go_wp2)
                go_loopg [16] kj81 (fun kq v16 w' => ∃ (x16_6 : Int), v16 = .int .i64 x16_6 ∧ Aside0 (mapmakerlaw48_TrafficLast.l1 kq t263 t279 t286 x15_81 x16_6 l0_0 l0_1 l0_2 a2_0 a2_1 a2_2 a2_3 = some r) ∧ Aside0 (kq ≤ kj81) ∧ Aside0 (Kd.R (Kd.int .i64) 3 w' w.heap.size (fun k_ => some k_ ≠ (v280 : Value).ownBlock ∧ some k_ ≠ (v287 : Value).ownBlock) v264 t263) ∧ Aside0 (Kd.R (Kd.int .i64) 3 w' w.heap.size (fun k_ => some k_ ≠ (v264 : Value).ownBlock ∧ some k_ ≠ (v287 : Value).ownBlock) v280 t279) ∧ Aside0 (Kd.R (Kd.int .i64) 3 w' w.heap.size (fun k_ => some k_ ≠ (v264 : Value).ownBlock ∧ some k_ ≠ (v280 : Value).ownBlock) v287 t286) ∧ Aside0 (w'.heap[gb258]? = some (.cells #[(.slice A0_0 l0_0.length c0_0), (.slice A0_1 l0_1.length c0_1), (.slice A0_2 l0_2.length c0_2)] 32 (0, 0))) ∧ Aside0 (w'.heap[gb259]? = some (.cells #[(.slice A1_0 l1_0.length c1_0), (.slice A1_1 l1_1.length c1_1), .int .i64 a1_2] 41 (0, 0))) ∧ Aside0 (w'.heap[gb260]? = some (.cells #[.int .i64 a2_0, .int .i64 a2_1, .int .i64 a2_2, .int .i64 a2_3] 43 (0, 0))) ∧ Aside0 (Below w.heap.size w w'))
                case atStart => exact ⟨(0), (by first | rfl | (simp; done) | (simp [*]; done)), H', ⟨Nat.le_refl _⟩, ⟨by (with_reducible repeat (first | apply Kd.R_alloc | apply Kd.R_drewN | apply Kd.R_drew)); exact HO_7.out⟩, ⟨by (with_reducible repeat (first | apply Kd.R_alloc | apply Kd.R_drewN | apply Kd.R_drew)); exact HO_11.out⟩, ⟨by (with_reducible repeat (first | apply Kd.R_alloc | apply Kd.R_drewN | apply Kd.R_drew)); exact HO_13.out⟩, ⟨by (with_reducible repeat first | apply blk_drewN | apply blk_drew | apply blk_alloc); exact BK258.out⟩, ⟨by (with_reducible repeat first | apply blk_drewN | apply blk_drew | apply blk_alloc); exact BK259.out⟩, ⟨by (with_reducible repeat first | apply blk_drewN | apply blk_drew | apply blk_alloc); exact BK260.out⟩, ⟨by repeat (first | (with_reducible first | exact HB.out | apply below_alloc | apply pw_below_drewN | apply below_drew1 | refine below_set ?_ GE258.out | refine below_set ?_ GE259.out | refine below_set ?_ GE260.out) | exact HB.out)⟩⟩
                case round =>
                 clear H'
                 try clear c1
                 try clear c2
                 try clear p2
                 try clear q2
                 try clear hx2
                 try clear c3
                 try clear c4
                 try clear c5
                 try clear p6
                 try clear c7
                 try clear c8
                 try clear c9
                 try clear c10
                 try clear c11
                 try clear c14
                 try clear c16
                 try clear c17
                 try clear c20
                 try clear c25
                 try clear c26
                 try clear p27
                 try clear q27
                 try clear hx27
                 try clear c28
                 try clear c31
                 try clear c31b0
                 try clear c31b1
                 try clear c33
                 try clear c34
                 try clear c40
                 try clear c43
                 try clear c43b0
                 try clear c44
                 try clear c44b0
                 try clear c45
                 try clear c46
                 try clear c47
                 try clear c50
                 try clear c54
                 try clear c55
                 try clear c57
                 try clear p64
                 try clear c71
                 try clear c71b0
                 try clear c71b1
                 try clear c72
                 try clear c72b0
                 try clear c72b1
                 try clear c73
                 try clear c73b0
                 try clear c73b1
                 try clear c73b2
                 try clear c74
                 try clear c74b0
                 try clear c74b1
                 try clear c74b2
                 try clear c78
                 try clear c79
                 try clear c81
                 try clear c83
                 try clear c83b0
                 try clear c84
                 try clear c85
                 try clear c87
                 try clear c89
                 try clear c90
                 try clear c92
                 try clear hcz12_0
                 try clear hcz12_1
                 try clear hcz12_2
                 try clear hcz15_0
                 try clear hcz15_1
                 try clear hcz15_2
                 try clear hcz18_0
                 try clear hcz18_1
                 try clear hcz18_2
                 try clear hcz27_0
                 try clear hcz27_1
                 try clear hcz27_2
                 try clear hcz29_0
                 try clear hcz29_1
                 try clear hcz29_2
                 try clear hcz35_0
                 try clear hcz35_1
                 try clear hcz35_2
                 try clear hcz35_3
                 try clear hcz48_0
                 try clear hcz48_1
                 try clear hcz48_2
                 try clear hcz56_0
                 try clear hcz56_1
                 try clear hcz56_2
                 try clear hcz58_0
                 try clear hcz58_1
                 try clear hcz58_2
                 try clear hcz58_3
                 try clear hcz60_0
                 try clear hcz60_1
                 try clear hcz60_2
                 try clear hcz61_0
                 try clear hcz61_1
                 try clear hcz61_2
                 try clear hcz64_0
                 try clear hcz64_1
                 try clear hcz64_2
                 try clear hcz65_0
                 try clear hcz65_1
                 try clear hcz65_2
                 try clear hcz65_3
                 try clear hcz68_0
                 try clear hcz68_1
                 try clear hcz68_2
                 try clear hcz80_0
                 try clear hcz80_1
                 try clear hcz80_2
                 try clear hcz86_0
                 try clear hcz86_1
                 try clear hcz86_2
                 try clear hcz86_3
                 try clear hcz88_0
                 try clear hcz88_1
                 try clear hcz88_2
                 try clear hcz91_0
                 try clear hcz91_1
                 try clear hcz91_2
                 try clear hcz91_3
                 try clear hcz93_0
                 try clear hcz93_1
                 try clear hcz93_2
                 try clear hfz12_0
                 try clear hfz12_1
                 try clear hfz12_2
                 try clear hfz15_0
                 try clear hfz15_1
                 try clear hfz15_2
                 try clear hfz18_0
                 try clear hfz18_1
                 try clear hfz18_2
                 try clear hfz27_0
                 try clear hfz27_1
                 try clear hfz27_2
                 try clear hfz29_0
                 try clear hfz29_1
                 try clear hfz29_2
                 try clear hfz35_0
                 try clear hfz35_1
                 try clear hfz35_2
                 try clear hfz35_3
                 try clear hfz48_0
                 try clear hfz48_1
                 try clear hfz48_2
                 try clear hfz56_0
                 try clear hfz56_1
                 try clear hfz56_2
                 try clear hfz58_0
                 try clear hfz58_1
                 try clear hfz58_2
                 try clear hfz58_3
                 try clear hfz60_0
                 try clear hfz60_1
                 try clear hfz60_2
                 try clear hfz61_0
                 try clear hfz61_1
                 try clear hfz61_2
                 try clear hfz64_0
                 try clear hfz64_1
                 try clear hfz64_2
                 try clear hfz65_0
                 try clear hfz65_1
                 try clear hfz65_2
                 try clear hfz65_3
                 try clear hfz68_0
                 try clear hfz68_1
                 try clear hfz68_2
                 try clear hfz80_0
                 try clear hfz80_1
                 try clear hfz80_2
                 try clear hfz86_0
                 try clear hfz86_1
                 try clear hfz86_2
                 try clear hfz86_3
                 try clear hfz88_0
                 try clear hfz88_1
                 try clear hfz88_2
                 try clear hfz91_0
                 try clear hfz91_1
                 try clear hfz91_2
                 try clear hfz91_3
                 try clear hfz93_0
                 try clear hfz93_1
                 try clear hfz93_2
                 try clear hx272_0
                 try clear hx272_1
                 try clear hx272_2
                 try clear hx272_3
                 try clear p2
                 try clear p27
                 try clear p272
                 try clear p6
                 try clear p64
                 try clear q2
                 try clear q27
                 try clear q272
                 obtain ⟨x16_6, rfl, HA, HK6, HO_7, HO_11, HO_13, BK258, BK259, BK260, HB⟩ := hrel
                 cases gk with
                 | zero => exact absurd HA.out (by simp [mapmakerlaw48_TrafficLast.l1])
                 | succ k6 =>
                  have H := HA.out
                  clear HA
                  simp only [mapmakerlaw48_TrafficLast.l1] at H
                  by_cases c94 : x16_6 < (t263.length : Int)
                  ·rw [if_pos c94] at H
                   have c94b0 : decide (x16_6 < (t263.length : Int)) = true := decide_eq_true c94
                   clear c94
                   by_cases c95 : 0 ≤ x16_6
                   ·rw [if_pos c95] at H
                    have c95b0 : decide (0 ≤ x16_6) = true := decide_eq_true c95
                    clear c95
                    have HC96 := Aside0.mk H
                    clear H
                    obtain ⟨Ao97, co97, eo97⟩ := Kd.R_slice HO_7.out
                    subst eo97
                    have p291 : 0 ≤ (x16_6 : Int) := of_decide_eq_true (by first | (with_reducible assumption) | assumption)
                    have q291 : x16_6 < (t263.length : Int) := of_decide_eq_true (by first | (with_reducible assumption) | assumption)
                    obtain ⟨ad291, e291, hx291_0⟩ := Kd.at_int (Kd.R_reads' HO_7.out).2.2 x16_6 p291 q291
                    cases e291
                    replace p291 := eq_true p291
                    replace q291 := eq_true q291
                    go_upto_region 21 with (fail)
                    repeat (go_quiet (fail); go_upto_region 21 with (fail))
                    go_cut [143] (fun v143 wc => ∃ (kq : Nat) (x143_95 : Bool), v143 = .bool x143_95 ∧ Aside0 (mapmakerlaw48_TrafficLast.j6 kq t263 t279 t286 x15_81 x16_6 (rd t263 x16_6) x143_95 l0_0 l0_1 l0_2 a2_0 a2_1 a2_2 a2_3 = some r) ∧ Aside0 (kq ≤ k6) ∧ Aside0 (Kd.R (Kd.int .i64) 3 wc w.heap.size (fun k_ => some k_ ≠ (v280 : Value).ownBlock ∧ some k_ ≠ (v287 : Value).ownBlock) (.slice (some ad291) t263.length co97) t263) ∧ Aside0 (Kd.R (Kd.int .i64) 3 wc w.heap.size (fun k_ => some k_ ≠ ((.slice (some ad291) t263.length co97) : Value).ownBlock ∧ some k_ ≠ (v287 : Value).ownBlock) v280 t279) ∧ Aside0 (Kd.R (Kd.int .i64) 3 wc w.heap.size (fun k_ => some k_ ≠ ((.slice (some ad291) t263.length co97) : Value).ownBlock ∧ some k_ ≠ (v280 : Value).ownBlock) v287 t286) ∧ Aside0 (wc.heap[gb258]? = some (.cells #[(.slice A0_0 l0_0.length c0_0), (.slice A0_1 l0_1.length c0_1), (.slice A0_2 l0_2.length c0_2)] 32 (0, 0))) ∧ Aside0 (wc.heap[gb259]? = some (.cells #[(.slice A1_0 l1_0.length c1_0), (.slice A1_1 l1_1.length c1_1), .int .i64 a1_2] 41 (0, 0))) ∧ Aside0 (wc.heap[gb260]? = some (.cells #[.int .i64 a2_0, .int .i64 a2_1, .int .i64 a2_2, .int .i64 a2_3] 43 (0, 0))) ∧ Aside0 (Below w.heap.size w wc))
                    case first =>
                     have H := HC96.out
                     clear HC96
                     by_cases c98 : x15_81 = true
                     ·subst c98
                      have H1 : (if x16_6 < (l0_2.length : Int) then (mapmakerlaw48_TrafficLast.j6 k6 t263 t279 t286 true x16_6 (rd t263 x16_6) (((rd_T48 l0_2 x16_6).f2) == a2_0) l0_0 l0_1 l0_2 a2_0 a2_1 a2_2 a2_3) else (none)) = some r := by rw [if_pos rfl] at H; exact H
                      clear H
                      have H := H1
                      clear H1
                      by_cases c99 : x16_6 < (l0_2.length : Int)
                      ·rw [if_pos c99] at H
                       have c99b0 : decide (x16_6 < (l0_2.length : Int)) = true := decide_eq_true c99
                       clear c99
                       (first | rw [c99b0] | (simp only [i64_w, i32_w]; rw [c99b0]) | skip)
                       have H' := Aside0.mk H
                       clear H
                       have hnb100 := NB258_259.out
                       have hnc100 := NB259_258.out
                       have hnb101 := NB258_260.out
                       have hnc101 := NB260_258.out
                       have hcz102_0 : wr.cell? ⟨gb258, 0, none⟩ = some (.slice A0_0 l0_0.length c0_0) := (blk_cell BK258.out 0).trans rfl
                       have hcz102_1 : wr.cell? ⟨gb258, 1, none⟩ = some (.slice A0_1 l0_1.length c0_1) := (blk_cell BK258.out 1).trans rfl
                       have hcz102_2 : wr.cell? ⟨gb258, 2, none⟩ = some (.slice A0_2 l0_2.length c0_2) := (blk_cell BK258.out 2).trans rfl
                       have hfz102_0 := blk_frozen BK258.out 0
                       have hfz102_1 := blk_frozen BK258.out 1
                       have hfz102_2 := blk_frozen BK258.out 2
                       have p292 : 0 ≤ (x16_6 : Int) := of_decide_eq_true (by first | (with_reducible assumption) | assumption)
                       have q292 : x16_6 < (l0_2.length : Int) := of_decide_eq_true (by first | (with_reducible assumption) | assumption)
                       obtain ⟨ad292, A292_5, c292_5, e292, hx292_0, hx292_1, hx292_2, hx292_3, hx292_4, hx292_5, hx292_6, hx292_7, hl292_5, hi292_5⟩ := at_T48 HR0_2.out x16_6 p292 q292
                       cases e292
                       replace hx292_0 := (HB.out.cell (World.block_lt_of_cell? w _ hx292_0)).trans hx292_0
                       replace hx292_1 := (HB.out.cell (World.block_lt_of_cell? w _ hx292_1)).trans hx292_1
                       replace hx292_2 := (HB.out.cell (World.block_lt_of_cell? w _ hx292_2)).trans hx292_2
                       replace hx292_3 := (HB.out.cell (World.block_lt_of_cell? w _ hx292_3)).trans hx292_3
                       replace hx292_4 := (HB.out.cell (World.block_lt_of_cell? w _ hx292_4)).trans hx292_4
                       replace hx292_5 := (HB.out.cell (World.block_lt_of_cell? w _ hx292_5)).trans hx292_5
                       replace hx292_6 := (HB.out.cell (World.block_lt_of_cell? w _ hx292_6)).trans hx292_6
                       replace hx292_7 := (HB.out.cell (World.block_lt_of_cell? w _ hx292_7)).trans hx292_7
                       have HR292_5 := Aside0.mk hi292_5
                       have HC292_5 := Aside0.mk hl292_5
                       clear hi292_5 hl292_5
                       replace p292 := eq_true p292
                       replace q292 := eq_true q292
                       have hnb103 := NB260_259.out
                       have hnc103 := NB259_260.out
                       have hcz104_0 : wr.cell? ⟨gb260, 0, none⟩ = some (.int .i64 a2_0) := (blk_cell BK260.out 0).trans rfl
                       have hcz104_1 : wr.cell? ⟨gb260, 1, none⟩ = some (.int .i64 a2_1) := (blk_cell BK260.out 1).trans rfl
                       have hcz104_2 : wr.cell? ⟨gb260, 2, none⟩ = some (.int .i64 a2_2) := (blk_cell BK260.out 2).trans rfl
                       have hcz104_3 : wr.cell? ⟨gb260, 3, none⟩ = some (.int .i64 a2_3) := (blk_cell BK260.out 3).trans rfl
                       have hfz104_0 := blk_frozen BK260.out 0
                       have hfz104_1 := blk_frozen BK260.out 1
                       have hfz104_2 := blk_frozen BK260.out 2
                       have hfz104_3 := blk_frozen BK260.out 3
                       go_wp2
                       repeat (go_quiet (fail); try go_wp2)
                       go_meet
                       case rel => exact ⟨_, ((((rd_T48 l0_2 x16_6).f2) == a2_0)), (by first | rfl | (simp; done) | (simp [*]; done)), H', ⟨by have := HJ3.out; have := HJ23.out; have := HK3.out; have := HJ52.out; have := HJ81.out; have := HK6.out; first | omega | exact Nat.le_refl _⟩, ⟨by (with_reducible repeat (first | apply Kd.R_alloc | apply Kd.R_drewN | apply Kd.R_drew)); exact HO_7.out⟩, ⟨by (with_reducible repeat (first | apply Kd.R_alloc | apply Kd.R_drewN | apply Kd.R_drew)); exact HO_11.out⟩, ⟨by (with_reducible repeat (first | apply Kd.R_alloc | apply Kd.R_drewN | apply Kd.R_drew)); exact HO_13.out⟩, ⟨by (with_reducible repeat first | apply blk_drewN | apply blk_drew | apply blk_alloc); exact BK258.out⟩, ⟨by (with_reducible repeat first | apply blk_drewN | apply blk_drew | apply blk_alloc); exact BK259.out⟩, ⟨by (with_reducible repeat first | apply blk_drewN | apply blk_drew | apply blk_alloc); exact BK260.out⟩, ⟨by repeat (first | (with_reducible first | exact HB.out | apply below_alloc | apply pw_below_drewN | apply below_drew1 | refine below_set ?_ GE258.out | refine below_set ?_ GE259.out | refine below_set ?_ GE260.out) | exact HB.out)⟩⟩
                      ·rw [if_neg c99] at H
                       exact absurd H (by simp)
                     ·replace c98 := Bool.eq_false_iff.mpr c98
                      subst c98
                      have H1 : (mapmakerlaw48_TrafficLast.j6 k6 t263 t279 t286 false x16_6 (rd t263 x16_6) false l0_0 l0_1 l0_2 a2_0 a2_1 a2_2 a2_3) = some r := by rw [if_neg (show ¬ (false = true) by decide)] at H; exact H
                      clear H
                      have H := H1
                      clear H1
                      have H' := Aside0.mk H
                      clear H
                      go_wp2
                      repeat (go_quiet (fail); try go_wp2)
                      go_meet
                      case rel => exact ⟨_, (false), (by first | rfl | (simp; done) | (simp [*]; done)), H', ⟨by have := HJ3.out; have := HJ23.out; have := HK3.out; have := HJ52.out; have := HJ81.out; have := HK6.out; first | omega | exact Nat.le_refl _⟩, ⟨by (with_reducible repeat (first | apply Kd.R_alloc | apply Kd.R_drewN | apply Kd.R_drew)); exact HO_7.out⟩, ⟨by (with_reducible repeat (first | apply Kd.R_alloc | apply Kd.R_drewN | apply Kd.R_drew)); exact HO_11.out⟩, ⟨by (with_reducible repeat (first | apply Kd.R_alloc | apply Kd.R_drewN | apply Kd.R_drew)); exact HO_13.out⟩, ⟨by (with_reducible repeat first | apply blk_drewN | apply blk_drew | apply blk_alloc); exact BK258.out⟩, ⟨by (with_reducible repeat first | apply blk_drewN | apply blk_drew | apply blk_alloc); exact BK259.out⟩, ⟨by (with_reducible repeat first | apply blk_drewN | apply blk_drew | apply blk_alloc); exact BK260.out⟩, ⟨by repeat (first | (with_reducible first | exact HB.out | apply below_alloc | apply pw_below_drewN | apply below_drew1 | refine below_set ?_ GE258.out | refine below_set ?_ GE259.out | refine below_set ?_ GE260.out) | exact HB.out)⟩⟩
                    case rest =>
                     clear HC96
                     try clear c1
                     try clear c2
                     try clear p2
                     try clear q2
                     try clear hx2
                     try clear c3
                     try clear c4
                     try clear c5
                     try clear p6
                     try clear c7
                     try clear c8
                     try clear c9
                     try clear c10
                     try clear c11
                     try clear c14
                     try clear c16
                     try clear c17
                     try clear c20
                     try clear c25
                     try clear c26
                     try clear p27
                     try clear q27
                     try clear hx27
                     try clear c28
                     try clear c29
                     try clear p29
                     try clear q29
                     try clear hx29
                     try clear c31
                     try clear c31b0
                     try clear c31b1
                     try clear c33
                     try clear c34
                     try clear c40
                     try clear c43
                     try clear c43b0
                     try clear c44
                     try clear c44b0
                     try clear c45
                     try clear c46
                     try clear c47
                     try clear c50
                     try clear c54
                     try clear c55
                     try clear c57
                     try clear p64
                     try clear c71
                     try clear c71b0
                     try clear c71b1
                     try clear c72
                     try clear c72b0
                     try clear c72b1
                     try clear c73
                     try clear c73b0
                     try clear c73b1
                     try clear c73b2
                     try clear c74
                     try clear c74b0
                     try clear c74b1
                     try clear c74b2
                     try clear c78
                     try clear c79
                     try clear c81
                     try clear c83
                     try clear c83b0
                     try clear c84
                     try clear c85
                     try clear c87
                     try clear c89
                     try clear c90
                     try clear c92
                     try clear c94
                     try clear c94b0
                     try clear c95
                     try clear c95b0
                     try clear c98
                     try clear c99
                     try clear c99b0
                     try clear c100
                     try clear c101
                     try clear c103
                     try clear hcz102_0
                     try clear hcz102_1
                     try clear hcz102_2
                     try clear hcz104_0
                     try clear hcz104_1
                     try clear hcz104_2
                     try clear hcz104_3
                     try clear hcz12_0
                     try clear hcz12_1
                     try clear hcz12_2
                     try clear hcz15_0
                     try clear hcz15_1
                     try clear hcz15_2
                     try clear hcz18_0
                     try clear hcz18_1
                     try clear hcz18_2
                     try clear hcz27_0
                     try clear hcz27_1
                     try clear hcz27_2
                     try clear hcz29_0
                     try clear hcz29_1
                     try clear hcz29_2
                     try clear hcz35_0
                     try clear hcz35_1
                     try clear hcz35_2
                     try clear hcz35_3
                     try clear hcz48_0
                     try clear hcz48_1
                     try clear hcz48_2
                     try clear hcz56_0
                     try clear hcz56_1
                     try clear hcz56_2
                     try clear hcz58_0
                     try clear hcz58_1
                     try clear hcz58_2
                     try clear hcz58_3
                     try clear hcz60_0
                     try clear hcz60_1
                     try clear hcz60_2
                     try clear hcz61_0
                     try clear hcz61_1
                     try clear hcz61_2
                     try clear hcz64_0
                     try clear hcz64_1
                     try clear hcz64_2
                     try clear hcz65_0
                     try clear hcz65_1
                     try clear hcz65_2
                     try clear hcz65_3
                     try clear hcz68_0
                     try clear hcz68_1
                     try clear hcz68_2
                     try clear hcz80_0
                     try clear hcz80_1
                     try clear hcz80_2
                     try clear hcz86_0
                     try clear hcz86_1
                     try clear hcz86_2
                     try clear hcz86_3
                     try clear hcz88_0
                     try clear hcz88_1
                     try clear hcz88_2
                     try clear hcz91_0
                     try clear hcz91_1
                     try clear hcz91_2
                     try clear hcz91_3
                     try clear hcz93_0
                     try clear hcz93_1
                     try clear hcz93_2
                     try clear hfz102_0
                     try clear hfz102_1
                     try clear hfz102_2
                     try clear hfz104_0
                     try clear hfz104_1
                     try clear hfz104_2
                     try clear hfz104_3
                     try clear hfz12_0
                     try clear hfz12_1
                     try clear hfz12_2
                     try clear hfz15_0
                     try clear hfz15_1
                     try clear hfz15_2
                     try clear hfz18_0
                     try clear hfz18_1
                     try clear hfz18_2
                     try clear hfz27_0
                     try clear hfz27_1
                     try clear hfz27_2
                     try clear hfz29_0
                     try clear hfz29_1
                     try clear hfz29_2
                     try clear hfz35_0
                     try clear hfz35_1
                     try clear hfz35_2
                     try clear hfz35_3
                     try clear hfz48_0
                     try clear hfz48_1
                     try clear hfz48_2
                     try clear hfz56_0
                     try clear hfz56_1
                     try clear hfz56_2
                     try clear hfz58_0
                     try clear hfz58_1
                     try clear hfz58_2
                     try clear hfz58_3
                     try clear hfz60_0
                     try clear hfz60_1
                     try clear hfz60_2
                     try clear hfz61_0
                     try clear hfz61_1
                     try clear hfz61_2
                     try clear hfz64_0
                     try clear hfz64_1
                     try clear hfz64_2
                     try clear hfz65_0
                     try clear hfz65_1
                     try clear hfz65_2
                     try clear hfz65_3
                     try clear hfz68_0
                     try clear hfz68_1
                     try clear hfz68_2
                     try clear hfz80_0
                     try clear hfz80_1
                     try clear hfz80_2
                     try clear hfz86_0
                     try clear hfz86_1
                     try clear hfz86_2
                     try clear hfz86_3
                     try clear hfz88_0
                     try clear hfz88_1
                     try clear hfz88_2
                     try clear hfz91_0
                     try clear hfz91_1
                     try clear hfz91_2
                     try clear hfz91_3
                     try clear hfz93_0
                     try clear hfz93_1
                     try clear hfz93_2
                     try clear hx272_0
                     try clear hx272_1
                     try clear hx272_2
                     try clear hx272_3
                     try clear hx291_0
                     try clear hx292_0
                     try clear hx292_1
                     try clear hx292_2
                     try clear hx292_3
                     try clear hx292_4
                     try clear hx292_5
                     try clear hx292_6
                     try clear hx292_7
                     try clear p2
                     try clear p27
                     try clear p272
                     try clear p291
                     try clear p292
                     try clear p6
                     try clear p64
                     try clear q2
                     try clear q27
                     try clear q272
                     try clear q291
                     try clear q292
                     obtain ⟨kq, x143_95, rfl, HA, HJ95, HO_7, HO_11, HO_13, BK258, BK259, BK260, HB⟩ := hcut
                     cases kq with
                     | zero => exact absurd HA.out (by simp [mapmakerlaw48_TrafficLast.j6])
                     | succ kj95 =>
                      have H := HA.out
                      clear HA
                      simp only [mapmakerlaw48_TrafficLast.j6] at H
                      by_cases c105 : x143_95 = true
                      ·subst c105
                       have H1 : (if 0 ≤ x16_6 then (if x16_6 < (t286.length : Int) then (if x16_6 < (t279.length : Int) then (if (rd t279 x16_6) = (rd t286 x16_6) then (mapmakerlaw48_TrafficLast.l1 kj95 t263 t279 t286 x15_81 (wrap64 (x16_6 + 1)) l0_0 l0_1 l0_2 a2_0 a2_1 a2_2 a2_3) else (none)) else (none)) else (none)) else (none)) = some r := by rw [if_pos rfl] at H; exact H
                       clear H
                       have H := H1
                       clear H1
                       by_cases c106 : 0 ≤ x16_6
                       ·rw [if_pos c106] at H
                        have c106b0 : decide (0 ≤ x16_6) = true := decide_eq_true c106
                        clear c106
                        by_cases c107 : x16_6 < (t286.length : Int)
                        ·rw [if_pos c107] at H
                         have c107b0 : decide (x16_6 < (t286.length : Int)) = true := decide_eq_true c107
                         clear c107
                         by_cases c108 : x16_6 < (t279.length : Int)
                         ·rw [if_pos c108] at H
                          have c108b0 : decide (x16_6 < (t279.length : Int)) = true := decide_eq_true c108
                          clear c108
                          by_cases c109 : (rd t279 x16_6) = (rd t286 x16_6)
                          ·rw [if_pos c109] at H
                           have c109b0 : ((rd t279 x16_6) == (rd t286 x16_6)) = true := beq_iff_eq.mpr c109
                           have c109b1 : ((rd t279 x16_6) != (rd t286 x16_6)) = false := bne_eq_false_iff_eq.mpr c109
                           clear c109
                           have H' := Aside0.mk H
                           clear H
                           obtain ⟨Ao110, co110, eo110⟩ := Kd.R_slice HO_13.out
                           subst eo110
                           have p293 : 0 ≤ (x16_6 : Int) := of_decide_eq_true (by first | (with_reducible assumption) | assumption)
                           have q293 : x16_6 < (t286.length : Int) := of_decide_eq_true (by first | (with_reducible assumption) | assumption)
                           obtain ⟨ad293, e293, hx293_0⟩ := Kd.at_int (Kd.R_reads' HO_13.out).2.2 x16_6 p293 q293
                           cases e293
                           replace p293 := eq_true p293
                           replace q293 := eq_true q293
                           obtain ⟨Ao111, co111, eo111⟩ := Kd.R_slice HO_11.out
                           subst eo111
                           have p294 : 0 ≤ (x16_6 : Int) := of_decide_eq_true (by first | (with_reducible assumption) | assumption)
                           have q294 : x16_6 < (t279.length : Int) := of_decide_eq_true (by first | (with_reducible assumption) | assumption)
                           obtain ⟨ad294, e294, hx294_0⟩ := Kd.at_int (Kd.R_reads' HO_11.out).2.2 x16_6 p294 q294
                           cases e294
                           replace p294 := eq_true p294
                           replace q294 := eq_true q294
                           go_wp2
                           repeat (go_quiet (fail); try go_wp2)
                           go_roundg kj95
                           case measure => have := HJ3.out; have := HJ23.out; have := HK3.out; have := HJ52.out; have := HJ81.out; have := HK6.out; have := HJ95.out; omega
                           case rel => exact ⟨(wrap64 (x16_6 + 1)), (by first | rfl | (simp; done) | (simp [*]; done)), H', ⟨by have := HJ3.out; have := HJ23.out; have := HK3.out; have := HJ52.out; have := HJ81.out; have := HK6.out; have := HJ95.out; omega⟩, ⟨by (with_reducible repeat (first | apply Kd.R_alloc | apply Kd.R_drewN | apply Kd.R_drew)); exact HO_7.out⟩, ⟨by (with_reducible repeat (first | apply Kd.R_alloc | apply Kd.R_drewN | apply Kd.R_drew)); exact HO_11.out⟩, ⟨by (with_reducible repeat (first | apply Kd.R_alloc | apply Kd.R_drewN | apply Kd.R_drew)); exact HO_13.out⟩, ⟨by (with_reducible repeat first | apply blk_drewN | apply blk_drew | apply blk_alloc); exact BK258.out⟩, ⟨by (with_reducible repeat first | apply blk_drewN | apply blk_drew | apply blk_alloc); exact BK259.out⟩, ⟨by (with_reducible repeat first | apply blk_drewN | apply blk_drew | apply blk_alloc); exact BK260.out⟩, ⟨by repeat (first | (with_reducible first | exact HB.out | apply below_alloc | apply pw_below_drewN | apply below_drew1 | refine below_set ?_ GE258.out | refine below_set ?_ GE259.out | refine below_set ?_ GE260.out) | exact HB.out)⟩⟩
                          ·rw [if_neg c109] at H
                           exact absurd H (by simp)
                         ·rw [if_neg c108] at H
                          exact absurd H (by simp)
                        ·rw [if_neg c107] at H
                         exact absurd H (by simp)
                       ·rw [if_neg c106] at H
                        exact absurd H (by simp)
                      ·replace c105 := Bool.eq_false_iff.mpr c105
                       subst c105
                       have H1 : (if 0 ≤ x16_6 then (if x16_6 < (t279.length : Int) then (if (rd t279 x16_6) = (rd t263 x16_6) then (mapmakerlaw48_TrafficLast.l1 kj95 t263 t279 t286 x15_81 (wrap64 (x16_6 + 1)) l0_0 l0_1 l0_2 a2_0 a2_1 a2_2 a2_3) else (none)) else (none)) else (none)) = some r := by rw [if_neg (show ¬ (false = true) by decide)] at H; exact H
                       clear H
                       have H := H1
                       clear H1
                       by_cases c112 : 0 ≤ x16_6
                       ·rw [if_pos c112] at H
                        have c112b0 : decide (0 ≤ x16_6) = true := decide_eq_true c112
                        clear c112
                        by_cases c113 : x16_6 < (t279.length : Int)
                        ·rw [if_pos c113] at H
                         have c113b0 : decide (x16_6 < (t279.length : Int)) = true := decide_eq_true c113
                         clear c113
                         by_cases c114 : (rd t279 x16_6) = (rd t263 x16_6)
                         ·rw [if_pos c114] at H
                          have c114b0 : ((rd t279 x16_6) == (rd t263 x16_6)) = true := beq_iff_eq.mpr c114
                          have c114b1 : ((rd t279 x16_6) != (rd t263 x16_6)) = false := bne_eq_false_iff_eq.mpr c114
                          clear c114
                          have H' := Aside0.mk H
                          clear H
                          obtain ⟨Ao115, co115, eo115⟩ := Kd.R_slice HO_11.out
                          subst eo115
                          have p295 : 0 ≤ (x16_6 : Int) := of_decide_eq_true (by first | (with_reducible assumption) | assumption)
                          have q295 : x16_6 < (t279.length : Int) := of_decide_eq_true (by first | (with_reducible assumption) | assumption)
                          obtain ⟨ad295, e295, hx295_0⟩ := Kd.at_int (Kd.R_reads' HO_11.out).2.2 x16_6 p295 q295
                          cases e295
                          replace p295 := eq_true p295
                          replace q295 := eq_true q295
                          go_wp2
                          repeat (go_quiet (fail); try go_wp2)
                          go_roundg kj95
                          case measure => have := HJ3.out; have := HJ23.out; have := HK3.out; have := HJ52.out; have := HJ81.out; have := HK6.out; have := HJ95.out; omega
                          case rel => exact ⟨(wrap64 (x16_6 + 1)), (by first | rfl | (simp; done) | (simp [*]; done)), H', ⟨by have := HJ3.out; have := HJ23.out; have := HK3.out; have := HJ52.out; have := HJ81.out; have := HK6.out; have := HJ95.out; omega⟩, ⟨by (with_reducible repeat (first | apply Kd.R_alloc | apply Kd.R_drewN | apply Kd.R_drew)); exact HO_7.out⟩, ⟨by (with_reducible repeat (first | apply Kd.R_alloc | apply Kd.R_drewN | apply Kd.R_drew)); exact HO_11.out⟩, ⟨by (with_reducible repeat (first | apply Kd.R_alloc | apply Kd.R_drewN | apply Kd.R_drew)); exact HO_13.out⟩, ⟨by (with_reducible repeat first | apply blk_drewN | apply blk_drew | apply blk_alloc); exact BK258.out⟩, ⟨by (with_reducible repeat first | apply blk_drewN | apply blk_drew | apply blk_alloc); exact BK259.out⟩, ⟨by (with_reducible repeat first | apply blk_drewN | apply blk_drew | apply blk_alloc); exact BK260.out⟩, ⟨by repeat (first | (with_reducible first | exact HB.out | apply below_alloc | apply pw_below_drewN | apply below_drew1 | refine below_set ?_ GE258.out | refine below_set ?_ GE259.out | refine below_set ?_ GE260.out) | exact HB.out)⟩⟩
                         ·rw [if_neg c114] at H
                          exact absurd H (by simp)
                        ·rw [if_neg c113] at H
                         exact absurd H (by simp)
                       ·rw [if_neg c112] at H
                        exact absurd H (by simp)
                   ·rw [if_neg c95] at H
                    exact absurd H (by simp)
                  ·rw [if_neg c94] at H
                   have c94b0 : decide (x16_6 < (t263.length : Int)) = false := decide_eq_false c94
                   clear c94
                   replace H := Option.bind_eq_some_iff.mp H
                   obtain ⟨t290, A1160, H⟩ := H
                   replace H : (some t290) = some r := H
                   have A116 := Aside0.mk A1160
                   clear A1160
                   obtain rfl := Option.some.inj H
                   obtain ⟨Ao117, co117, eo117⟩ := Kd.R_slice HO_7.out
                   subst eo117
                   go_wp2_with (first | (go_at_call 8; (with_reducible refine (mapmakerlaw48_lives.calls k6  t290 _ A116.out).mono ?_); rintro e w118 ⟨rfl, hb⟩; have n0_ := Aside0.mk (Kd.R_below (by (with_reducible repeat (first | apply Kd.R_alloc | apply Kd.R_drewN | apply Kd.R_drew)); exact HO_7.out) hb); have n1_ := Aside0.mk (Kd.R_below (by (with_reducible repeat (first | apply Kd.R_alloc | apply Kd.R_drewN | apply Kd.R_drew)); exact HO_11.out) hb); have n2_ := Aside0.mk (Kd.R_below (by (with_reducible repeat (first | apply Kd.R_alloc | apply Kd.R_drewN | apply Kd.R_drew)); exact HO_13.out) hb); have n3_ := Aside0.mk (blk_below (by (with_reducible repeat first | apply blk_drewN | apply blk_drew | apply blk_alloc); exact BK258.out) hb); have n4_ := Aside0.mk (blk_below (by (with_reducible repeat first | apply blk_drewN | apply blk_drew | apply blk_alloc); exact BK259.out) hb); have n5_ := Aside0.mk (blk_below (by (with_reducible repeat first | apply blk_drewN | apply blk_drew | apply blk_alloc); exact BK260.out) hb); have n6_ := Aside0.mk (below_step (by repeat (first | (with_reducible first | exact HB.out | apply below_alloc | apply pw_below_drewN | apply below_drew1 | refine below_set ?_ GE258.out | refine below_set ?_ GE259.out | refine below_set ?_ GE260.out) | exact HB.out)) hb); clear HO_7 HO_11 HO_13 BK258 BK259 BK260 HB; have HO_7 := n0_; have HO_11 := n1_; have HO_13 := n2_; have BK258 := n3_; have BK259 := n4_; have BK260 := n5_; have HB := n6_; clear n0_ n1_ n2_ n3_ n4_ n5_ n6_; (try clear hb); (try clear hb2); (try clear hk); (try clear hi)))
                   repeat (go_quiet (first | (go_at_call 8; (with_reducible refine (mapmakerlaw48_lives.calls k6  t290 _ A116.out).mono ?_); rintro e w118 ⟨rfl, hb⟩; have n0_ := Aside0.mk (Kd.R_below (by (with_reducible repeat (first | apply Kd.R_alloc | apply Kd.R_drewN | apply Kd.R_drew)); exact HO_7.out) hb); have n1_ := Aside0.mk (Kd.R_below (by (with_reducible repeat (first | apply Kd.R_alloc | apply Kd.R_drewN | apply Kd.R_drew)); exact HO_11.out) hb); have n2_ := Aside0.mk (Kd.R_below (by (with_reducible repeat (first | apply Kd.R_alloc | apply Kd.R_drewN | apply Kd.R_drew)); exact HO_13.out) hb); have n3_ := Aside0.mk (blk_below (by (with_reducible repeat first | apply blk_drewN | apply blk_drew | apply blk_alloc); exact BK258.out) hb); have n4_ := Aside0.mk (blk_below (by (with_reducible repeat first | apply blk_drewN | apply blk_drew | apply blk_alloc); exact BK259.out) hb); have n5_ := Aside0.mk (blk_below (by (with_reducible repeat first | apply blk_drewN | apply blk_drew | apply blk_alloc); exact BK260.out) hb); have n6_ := Aside0.mk (below_step (by repeat (first | (with_reducible first | exact HB.out | apply below_alloc | apply pw_below_drewN | apply below_drew1 | refine below_set ?_ GE258.out | refine below_set ?_ GE259.out | refine below_set ?_ GE260.out) | exact HB.out)) hb); clear HO_7 HO_11 HO_13 BK258 BK259 BK260 HB; have HO_7 := n0_; have HO_11 := n1_; have HO_13 := n2_; have BK258 := n3_; have BK259 := n4_; have BK260 := n5_; have HB := n6_; clear n0_ n1_ n2_ n3_ n4_ n5_ n6_; (try clear hb); (try clear hb2); (try clear hk); (try clear hi))); try go_wp2_with (first | (go_at_call 8; (with_reducible refine (mapmakerlaw48_lives.calls k6  t290 _ A116.out).mono ?_); rintro e w118 ⟨rfl, hb⟩; have n0_ := Aside0.mk (Kd.R_below (by (with_reducible repeat (first | apply Kd.R_alloc | apply Kd.R_drewN | apply Kd.R_drew)); exact HO_7.out) hb); have n1_ := Aside0.mk (Kd.R_below (by (with_reducible repeat (first | apply Kd.R_alloc | apply Kd.R_drewN | apply Kd.R_drew)); exact HO_11.out) hb); have n2_ := Aside0.mk (Kd.R_below (by (with_reducible repeat (first | apply Kd.R_alloc | apply Kd.R_drewN | apply Kd.R_drew)); exact HO_13.out) hb); have n3_ := Aside0.mk (blk_below (by (with_reducible repeat first | apply blk_drewN | apply blk_drew | apply blk_alloc); exact BK258.out) hb); have n4_ := Aside0.mk (blk_below (by (with_reducible repeat first | apply blk_drewN | apply blk_drew | apply blk_alloc); exact BK259.out) hb); have n5_ := Aside0.mk (blk_below (by (with_reducible repeat first | apply blk_drewN | apply blk_drew | apply blk_alloc); exact BK260.out) hb); have n6_ := Aside0.mk (below_step (by repeat (first | (with_reducible first | exact HB.out | apply below_alloc | apply pw_below_drewN | apply below_drew1 | refine below_set ?_ GE258.out | refine below_set ?_ GE259.out | refine below_set ?_ GE260.out) | exact HB.out)) hb); clear HO_7 HO_11 HO_13 BK258 BK259 BK260 HB; have HO_7 := n0_; have HO_11 := n1_; have HO_13 := n2_; have BK258 := n3_; have BK259 := n4_; have BK260 := n5_; have HB := n6_; clear n0_ n1_ n2_ n3_ n4_ n5_ n6_; (try clear hb); (try clear hb2); (try clear hk); (try clear hi))))
                   go_ret
                   exact ⟨by first | rfl | (simp [errW_none, errW_some] <;> rfl) | (simp [*, errW_none, errW_some] <;> rfl), by repeat (first | (with_reducible first | exact HB.out | apply below_alloc | apply pw_below_drewN | apply below_drew1 | refine below_set ?_ GE258.out | refine below_set ?_ GE259.out | refine below_set ?_ GE260.out) | exact HB.out)⟩
          ·rw [if_neg c50] at H
           exact absurd H (by simp)

/-- THE ONE PURE STATEMENT of mapmakerlaw48_TrafficLast. -/
def mapmakerlaw48_TrafficLast.Pure : Prop := ∀ (l0_0 : List Int) (l0_1 : List (S64)) (l0_2 : List (S48)) (l1_0 : List (S43)) (l1_1 : List (S43)) (a1_2 : Int) (a2_0 : Int) (a2_1 : Int) (a2_2 : Int) (a2_3 : Int), ((l0_0.length ≤ maxLen ∧ ∀ x_ ∈ l0_0, (Lit.int .i64 x_).wf = true) ∧ (l0_1.length ≤ maxLen ∧ ∀ x_ ∈ l0_1, (Lit.int .i64 x_.f0).wf = true ∧ (Lit.int .i64 x_.f1).wf = true) ∧ (l0_2.length ≤ maxLen ∧ ∀ x_ ∈ l0_2, (Lit.int .i64 x_.f0).wf = true ∧ (Lit.int .i64 x_.f1).wf = true ∧ (Lit.int .i64 x_.f2).wf = true ∧ (Lit.int .i64 x_.f3).wf = true ∧ (Lit.int .i64 x_.f4).wf = true ∧ ((x_.f5.f0.length ≤ maxLen ∧ ∀ x1_ ∈ x_.f5.f0, (Lit.int .i64 x1_.f0).wf = true ∧ (Lit.int .i64 x1_.f1).wf = true) ∧ (Lit.int .i64 x_.f5.f1).wf = true ∧ (Lit.int .i64 x_.f5.f2).wf = true))) → ((l1_0.length ≤ maxLen ∧ ∀ x_ ∈ l1_0, (Lit.int .i64 x_.f0).wf = true ∧ (Lit.int .i64 x_.f1).wf = true ∧ (Lit.int .i64 x_.f2).wf = true ∧ (Lit.int .i64 x_.f3).wf = true) ∧ (l1_1.length ≤ maxLen ∧ ∀ x_ ∈ l1_1, (Lit.int .i64 x_.f0).wf = true ∧ (Lit.int .i64 x_.f1).wf = true ∧ (Lit.int .i64 x_.f2).wf = true ∧ (Lit.int .i64 x_.f3).wf = true) ∧ (Lit.int .i64 a1_2).wf = true) → ((Lit.int .i64 a2_0).wf = true ∧ (Lit.int .i64 a2_1).wf = true ∧ (Lit.int .i64 a2_2).wf = true ∧ (Lit.int .i64 a2_3).wf = true) → ∃ k, mapmakerlaw48_TrafficLast.f k l0_0 l0_1 l0_2 l1_0 l1_1 a1_2 a2_0 a2_1 a2_2 a2_3 = some true

end Go.Proofs.Ytpjeomjingocbaa.PAll
