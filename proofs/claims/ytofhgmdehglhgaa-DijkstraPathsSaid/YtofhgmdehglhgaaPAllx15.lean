-- Written by a program of this session (wip/tools), over the words that print.sh lays. (slim)
import Derived.Test.YtofhgmdehglhgaaPAllx0
namespace Go.Proofs.Ytofhgmdehglhgaa.PAll
open Go.RowKit Go.Proofs.YtofhgmdehglhgaaW.PrintWords Go.Proofs.YtofhgmdehglhgaaW.PrintLast Go.Proofs.YtofhgmdehglhgaaW.PrintMore
attribute [local go_sem] max2_int min2_int max_two min_two max_three min_three max_four min_four   -- for this text's walks alone
set_option linter.unusedVariables false
set_option linter.unusedSimpArgs false
attribute [local irreducible] Calls

/-! ### mapmakerref38_way: function 22 -/
mutual
def mapmakerref38_way.l0 : Nat → List Int → List Int → Int → Int → List Int → Int → Int → List (S40) → Option (List Int)
 | 0, _, _, _, _, _, _, _, _ => none
 | k + 1, x1, x2, x3, x4, x11, x12, x177000, x177001 => if x12 < x177000 then (if x11.length < 17592186044416 then (mapmakerref38_way.l0 k x1 x2 x3 x4 (x11 ++ [(-1)]) (wrap64 (x12 + 1)) x177000 x177001) else (none)) else (if 0 ≤ x3 then (if x3 < (x11.length : Int) then (mapmakerref38_way.l1 k x1 x2 x3 x4 (x11.set (x3 : Int).toNat 0) 0 x177000 x177001) else (none)) else (none))
def mapmakerref38_way.l1 : Nat → List Int → List Int → Int → Int → List Int → Int → Int → List (S40) → Option (List Int)
 | 0, _, _, _, _, _, _, _, _ => none
 | k + 1, x1, x2, x3, x4, x11, x13, x177000, x177001 => if x13 < x177000 then (mapmakerref38_way.l2 k x1 x2 x3 x4 x11 x13 0 x177000 x177001) else (mapmakerref38_way.l3 k x1 x2 x3 x4 x11 ([] : List Int) x177000 x177001)
def mapmakerref38_way.l2 : Nat → List Int → List Int → Int → Int → List Int → Int → Int → Int → List (S40) → Option (List Int)
 | 0, _, _, _, _, _, _, _, _, _ => none
 | k + 1, x1, x2, x3, x4, x11, x13, x14, x177000, x177001 => if x14 < (x177001.length : Int) then (if 0 ≤ x14 then (if x14 < (x1.length : Int) then (if (rd x1 x14) ≥ 0 then (if 0 ≤ ((rd_T40 x177001 x14).f0) then (if ((rd_T40 x177001 x14).f0) < (x11.length : Int) then (if (rd x11 ((rd_T40 x177001 x14).f0)) = x13 then (if 0 ≤ ((rd_T40 x177001 x14).f1) then (if ((rd_T40 x177001 x14).f1) < (x11.length : Int) then (if (rd x11 ((rd_T40 x177001 x14).f1)) < 0 then (if ((rd_T40 x177001 x14).f0) < (x2.length : Int) then (if ((rd_T40 x177001 x14).f1) < (x2.length : Int) then (if (wrap64 ((rd x2 ((rd_T40 x177001 x14).f0)) + (rd x1 x14))) = (rd x2 ((rd_T40 x177001 x14).f1)) then (mapmakerref38_way.l2 k x1 x2 x3 x4 (x11.set (((rd_T40 x177001 x14).f1) : Int).toNat (wrap64 (x13 + 1))) x13 (wrap64 (x14 + 1)) x177000 x177001) else (mapmakerref38_way.l2 k x1 x2 x3 x4 x11 x13 (wrap64 (x14 + 1)) x177000 x177001)) else (none)) else (none)) else (mapmakerref38_way.l2 k x1 x2 x3 x4 x11 x13 (wrap64 (x14 + 1)) x177000 x177001)) else (none)) else (none)) else (mapmakerref38_way.l2 k x1 x2 x3 x4 x11 x13 (wrap64 (x14 + 1)) x177000 x177001)) else (none)) else (none)) else (mapmakerref38_way.l2 k x1 x2 x3 x4 x11 x13 (wrap64 (x14 + 1)) x177000 x177001)) else (none)) else (none)) else (mapmakerref38_way.l1 k x1 x2 x3 x4 x11 (wrap64 (x13 + 1)) x177000 x177001)
def mapmakerref38_way.l3 : Nat → List Int → List Int → Int → Int → List Int → List Int → Int → List (S40) → Option (List Int)
 | 0, _, _, _, _, _, _, _, _ => none
 | k + 1, x1, x2, x3, x4, x11, x16, x177000, x177001 => if x4 = x3 then (mapmakerref38_way.l5 k x16 ([] : List Int) (wrap64 ((x16.length : Int) - 1))) else (mapmakerref38_way.l4 k x1 x2 x3 x4 x11 x16 0 x177000 x177001)
def mapmakerref38_way.l5 : Nat → List Int → List Int → Int → Option (List Int)
 | 0, _, _, _ => none
 | k + 1, x16, x19, x20 => if x20 ≥ 0 then (if 0 ≤ x20 then (if x20 < (x16.length : Int) then (if x19.length < 17592186044416 then (mapmakerref38_way.l5 k x16 (x19 ++ [rd x16 x20]) (wrap64 (x20 - 1))) else (none)) else (none)) else (none)) else (some x19)
def mapmakerref38_way.l4 : Nat → List Int → List Int → Int → Int → List Int → List Int → Int → Int → List (S40) → Option (List Int)
 | 0, _, _, _, _, _, _, _, _, _ => none
 | k + 1, x1, x2, x3, x4, x11, x16, x17, x177000, x177001 => if x17 < (x177001.length : Int) then (if 0 ≤ x17 then (if x17 < (x1.length : Int) then (if (rd x1 x17) ≥ 0 then (if ((rd_T40 x177001 x17).f1) = x4 then (if 0 ≤ ((rd_T40 x177001 x17).f0) then (if ((rd_T40 x177001 x17).f0) < (x11.length : Int) then (if (rd x11 ((rd_T40 x177001 x17).f0)) ≥ 0 then (if 0 ≤ x4 then (if x4 < (x11.length : Int) then (if (wrap64 ((rd x11 ((rd_T40 x177001 x17).f0)) + 1)) = (rd x11 x4) then (if ((rd_T40 x177001 x17).f0) < (x2.length : Int) then (if x4 < (x2.length : Int) then (if (wrap64 ((rd x2 ((rd_T40 x177001 x17).f0)) + (rd x1 x17))) = (rd x2 x4) then (if x16.length < 17592186044416 then (mapmakerref38_way.l3 k x1 x2 x3 ((rd_T40 x177001 x17).f0) x11 (x16 ++ [x17]) x177000 x177001) else (none)) else (mapmakerref38_way.l4 k x1 x2 x3 x4 x11 x16 (wrap64 (x17 + 1)) x177000 x177001)) else (none)) else (none)) else (mapmakerref38_way.l4 k x1 x2 x3 x4 x11 x16 (wrap64 (x17 + 1)) x177000 x177001)) else (none)) else (none)) else (mapmakerref38_way.l4 k x1 x2 x3 x4 x11 x16 (wrap64 (x17 + 1)) x177000 x177001)) else (none)) else (none)) else (mapmakerref38_way.l4 k x1 x2 x3 x4 x11 x16 (wrap64 (x17 + 1)) x177000 x177001)) else (mapmakerref38_way.l4 k x1 x2 x3 x4 x11 x16 (wrap64 (x17 + 1)) x177000 x177001)) else (none)) else (none)) else (mapmakerref38_way.l3 k x1 x2 x3 x4 x11 x16 x177000 x177001)
end
def mapmakerref38_way.f (k : Nat) (a0_0 : Int) (l0_1 : List (S40)) (l1 : List Int) (l2 : List Int) (a3 : Int) (a4 : Int) : Option (List Int) := mapmakerref38_way.l0 k l1 l2 a3 a4 ([] : List Int) 0 a0_0 l0_1
theorem mapmakerref38_way.mono_l : ∀ k, (∀ y0 y1 y2 y3 y4 y5 y6 y7, LeO (mapmakerref38_way.l0 k y0 y1 y2 y3 y4 y5 y6 y7) (mapmakerref38_way.l0 (k + 1) y0 y1 y2 y3 y4 y5 y6 y7)) ∧ (∀ y0 y1 y2 y3 y4 y5 y6 y7, LeO (mapmakerref38_way.l1 k y0 y1 y2 y3 y4 y5 y6 y7) (mapmakerref38_way.l1 (k + 1) y0 y1 y2 y3 y4 y5 y6 y7)) ∧ (∀ y0 y1 y2 y3 y4 y5 y6 y7 y8, LeO (mapmakerref38_way.l2 k y0 y1 y2 y3 y4 y5 y6 y7 y8) (mapmakerref38_way.l2 (k + 1) y0 y1 y2 y3 y4 y5 y6 y7 y8)) ∧ (∀ y0 y1 y2 y3 y4 y5 y6 y7, LeO (mapmakerref38_way.l3 k y0 y1 y2 y3 y4 y5 y6 y7) (mapmakerref38_way.l3 (k + 1) y0 y1 y2 y3 y4 y5 y6 y7)) ∧ (∀ y0 y1 y2, LeO (mapmakerref38_way.l5 k y0 y1 y2) (mapmakerref38_way.l5 (k + 1) y0 y1 y2)) ∧ (∀ y0 y1 y2 y3 y4 y5 y6 y7 y8, LeO (mapmakerref38_way.l4 k y0 y1 y2 y3 y4 y5 y6 y7 y8) (mapmakerref38_way.l4 (k + 1) y0 y1 y2 y3 y4 y5 y6 y7 y8))
 | 0 => ⟨fun _ _ _ _ _ _ _ _ r h => by simp [mapmakerref38_way.l0] at h, fun _ _ _ _ _ _ _ _ r h => by simp [mapmakerref38_way.l1] at h, fun _ _ _ _ _ _ _ _ _ r h => by simp [mapmakerref38_way.l2] at h, fun _ _ _ _ _ _ _ _ r h => by simp [mapmakerref38_way.l3] at h, fun _ _ _ r h => by simp [mapmakerref38_way.l5] at h, fun _ _ _ _ _ _ _ _ _ r h => by simp [mapmakerref38_way.l4] at h⟩
 | k + 1 => by
  obtain ⟨ih0, ih1, ih2, ih3, ih4, ih5⟩ := mapmakerref38_way.mono_l k
  refine ⟨?_, ?_, ?_, ?_, ?_, ?_⟩
  ·intro y0 y1 y2 y3 y4 y5 y6 y7
   unfold mapmakerref38_way.l0
   repeat' first
   | (with_reducible exact ih0 _ _ _ _ _ _ _ _)
   | (with_reducible exact ih1 _ _ _ _ _ _ _ _)
   | (with_reducible exact ih2 _ _ _ _ _ _ _ _ _)
   | (with_reducible exact ih3 _ _ _ _ _ _ _ _)
   | (with_reducible exact ih4 _ _ _)
   | (with_reducible exact ih5 _ _ _ _ _ _ _ _ _)
   | (with_reducible exact LeO.refl _)
   | (with_reducible exact LeO.none _)
   | (with_reducible refine LeO.ite ?_ ?_)
   | (with_reducible refine LeO.bind ?_ (fun _ => ?_))
   | exact ih0 _ _ _ _ _ _ _ _
   | exact ih1 _ _ _ _ _ _ _ _
   | exact ih2 _ _ _ _ _ _ _ _ _
   | exact ih3 _ _ _ _ _ _ _ _
   | exact ih4 _ _ _
   | exact ih5 _ _ _ _ _ _ _ _ _
   | exact LeO.none _
   | refine LeO.ite ?_ ?_
   | refine LeO.bind ?_ (fun _ => ?_)
  ·intro y0 y1 y2 y3 y4 y5 y6 y7
   unfold mapmakerref38_way.l1
   repeat' first
   | (with_reducible exact ih0 _ _ _ _ _ _ _ _)
   | (with_reducible exact ih1 _ _ _ _ _ _ _ _)
   | (with_reducible exact ih2 _ _ _ _ _ _ _ _ _)
   | (with_reducible exact ih3 _ _ _ _ _ _ _ _)
   | (with_reducible exact ih4 _ _ _)
   | (with_reducible exact ih5 _ _ _ _ _ _ _ _ _)
   | (with_reducible exact LeO.refl _)
   | (with_reducible exact LeO.none _)
   | (with_reducible refine LeO.ite ?_ ?_)
   | (with_reducible refine LeO.bind ?_ (fun _ => ?_))
   | exact ih0 _ _ _ _ _ _ _ _
   | exact ih1 _ _ _ _ _ _ _ _
   | exact ih2 _ _ _ _ _ _ _ _ _
   | exact ih3 _ _ _ _ _ _ _ _
   | exact ih4 _ _ _
   | exact ih5 _ _ _ _ _ _ _ _ _
   | exact LeO.none _
   | refine LeO.ite ?_ ?_
   | refine LeO.bind ?_ (fun _ => ?_)
  ·intro y0 y1 y2 y3 y4 y5 y6 y7 y8
   unfold mapmakerref38_way.l2
   repeat' first
   | (with_reducible exact ih0 _ _ _ _ _ _ _ _)
   | (with_reducible exact ih1 _ _ _ _ _ _ _ _)
   | (with_reducible exact ih2 _ _ _ _ _ _ _ _ _)
   | (with_reducible exact ih3 _ _ _ _ _ _ _ _)
   | (with_reducible exact ih4 _ _ _)
   | (with_reducible exact ih5 _ _ _ _ _ _ _ _ _)
   | (with_reducible exact LeO.refl _)
   | (with_reducible exact LeO.none _)
   | (with_reducible refine LeO.ite ?_ ?_)
   | (with_reducible refine LeO.bind ?_ (fun _ => ?_))
   | exact ih0 _ _ _ _ _ _ _ _
   | exact ih1 _ _ _ _ _ _ _ _
   | exact ih2 _ _ _ _ _ _ _ _ _
   | exact ih3 _ _ _ _ _ _ _ _
   | exact ih4 _ _ _
   | exact ih5 _ _ _ _ _ _ _ _ _
   | exact LeO.none _
   | refine LeO.ite ?_ ?_
   | refine LeO.bind ?_ (fun _ => ?_)
  ·intro y0 y1 y2 y3 y4 y5 y6 y7
   unfold mapmakerref38_way.l3
   repeat' first
   | (with_reducible exact ih0 _ _ _ _ _ _ _ _)
   | (with_reducible exact ih1 _ _ _ _ _ _ _ _)
   | (with_reducible exact ih2 _ _ _ _ _ _ _ _ _)
   | (with_reducible exact ih3 _ _ _ _ _ _ _ _)
   | (with_reducible exact ih4 _ _ _)
   | (with_reducible exact ih5 _ _ _ _ _ _ _ _ _)
   | (with_reducible exact LeO.refl _)
   | (with_reducible exact LeO.none _)
   | (with_reducible refine LeO.ite ?_ ?_)
   | (with_reducible refine LeO.bind ?_ (fun _ => ?_))
   | exact ih0 _ _ _ _ _ _ _ _
   | exact ih1 _ _ _ _ _ _ _ _
   | exact ih2 _ _ _ _ _ _ _ _ _
   | exact ih3 _ _ _ _ _ _ _ _
   | exact ih4 _ _ _
   | exact ih5 _ _ _ _ _ _ _ _ _
   | exact LeO.none _
   | refine LeO.ite ?_ ?_
   | refine LeO.bind ?_ (fun _ => ?_)
  ·intro y0 y1 y2
   unfold mapmakerref38_way.l5
   repeat' first
   | (with_reducible exact ih0 _ _ _ _ _ _ _ _)
   | (with_reducible exact ih1 _ _ _ _ _ _ _ _)
   | (with_reducible exact ih2 _ _ _ _ _ _ _ _ _)
   | (with_reducible exact ih3 _ _ _ _ _ _ _ _)
   | (with_reducible exact ih4 _ _ _)
   | (with_reducible exact ih5 _ _ _ _ _ _ _ _ _)
   | (with_reducible exact LeO.refl _)
   | (with_reducible exact LeO.none _)
   | (with_reducible refine LeO.ite ?_ ?_)
   | (with_reducible refine LeO.bind ?_ (fun _ => ?_))
   | exact ih0 _ _ _ _ _ _ _ _
   | exact ih1 _ _ _ _ _ _ _ _
   | exact ih2 _ _ _ _ _ _ _ _ _
   | exact ih3 _ _ _ _ _ _ _ _
   | exact ih4 _ _ _
   | exact ih5 _ _ _ _ _ _ _ _ _
   | exact LeO.none _
   | refine LeO.ite ?_ ?_
   | refine LeO.bind ?_ (fun _ => ?_)
  ·intro y0 y1 y2 y3 y4 y5 y6 y7 y8
   unfold mapmakerref38_way.l4
   repeat' first
   | (with_reducible exact ih0 _ _ _ _ _ _ _ _)
   | (with_reducible exact ih1 _ _ _ _ _ _ _ _)
   | (with_reducible exact ih2 _ _ _ _ _ _ _ _ _)
   | (with_reducible exact ih3 _ _ _ _ _ _ _ _)
   | (with_reducible exact ih4 _ _ _)
   | (with_reducible exact ih5 _ _ _ _ _ _ _ _ _)
   | (with_reducible exact LeO.refl _)
   | (with_reducible exact LeO.none _)
   | (with_reducible refine LeO.ite ?_ ?_)
   | (with_reducible refine LeO.bind ?_ (fun _ => ?_))
   | exact ih0 _ _ _ _ _ _ _ _
   | exact ih1 _ _ _ _ _ _ _ _
   | exact ih2 _ _ _ _ _ _ _ _ _
   | exact ih3 _ _ _ _ _ _ _ _
   | exact ih4 _ _ _
   | exact ih5 _ _ _ _ _ _ _ _ _
   | exact LeO.none _
   | refine LeO.ite ?_ ?_
   | refine LeO.bind ?_ (fun _ => ?_)
theorem mapmakerref38_way.mono : ∀ a0 a1 a2 a3 a4 a5 k, LeO (mapmakerref38_way.f k a0 a1 a2 a3 a4 a5) (mapmakerref38_way.f (k + 1) a0 a1 a2 a3 a4 a5) := by
 intro a0 a1 a2 a3 a4 a5 k
 obtain ⟨ih0, ih1, ih2, ih3, ih4, ih5⟩ := mapmakerref38_way.mono_l k
 unfold mapmakerref38_way.f
 repeat' first
   | (with_reducible exact ih0 _ _ _ _ _ _ _ _)
   | (with_reducible exact ih1 _ _ _ _ _ _ _ _)
   | (with_reducible exact ih2 _ _ _ _ _ _ _ _ _)
   | (with_reducible exact ih3 _ _ _ _ _ _ _ _)
   | (with_reducible exact ih4 _ _ _)
   | (with_reducible exact ih5 _ _ _ _ _ _ _ _ _)
   | (with_reducible exact LeO.refl _)
   | (with_reducible exact LeO.none _)
   | (with_reducible refine LeO.ite ?_ ?_)
   | (with_reducible refine LeO.bind ?_ (fun _ => ?_))
   | exact ih0 _ _ _ _ _ _ _ _
   | exact ih1 _ _ _ _ _ _ _ _
   | exact ih2 _ _ _ _ _ _ _ _ _
   | exact ih3 _ _ _ _ _ _ _ _
   | exact ih4 _ _ _
   | exact ih5 _ _ _ _ _ _ _ _ _
   | exact LeO.none _
   | refine LeO.ite ?_ ?_
   | refine LeO.bind ?_ (fun _ => ?_)
set_option maxHeartbeats 8000000 in
set_option maxRecDepth 100000 in
theorem mapmakerref38_way.calls (k : Nat) (a0_0 : Int) (A0_1 : Option Addr) (c0_1 : Nat) (l0_1 : List (S40)) (A1 : Option Addr) (c1 : Nat) (l1 : List Int) (A2 : Option Addr) (c2 : Nat) (l2 : List Int) (a3 : Int) (a4 : Int) (r : List Int) (w : World) (hr0_1 : Kd.C k40 w A0_1 l0_1.length l0_1) (hc0_1 : l0_1.length ≤ c0_1) (hr1 : Kd.C (Kd.int .i64) w A1 l1.length l1) (hc1 : l1.length ≤ c1) (hr2 : Kd.C (Kd.int .i64) w A2 l2.length l2) (hc2 : l2.length ≤ c2) (h : mapmakerref38_way.f k a0_0 l0_1 l1 l2 a3 a4 = some r) :
  Calls Try.prog 22 #[.agg #[.int .i64 a0_0, .slice A0_1 l0_1.length c0_1], .slice A1 l1.length c1, .slice A2 l2.length c2, .int .i64 a3, .int .i64 a4] w fun e w' => ∃ v0_ : Value, e = .returned (v0_) ∧ Kd.R (Kd.int .i64) 3 w' w.heap.size (fun _ => True) v0_ r ∧ Below w.heap.size w w' := by
 have hu24 := Try.underlying24
 have hu40 := Try.underlying40
 have HR0_1 := Aside0.mk hr0_1
 have HC0_1 := Aside0.mk hc0_1
 clear hr0_1 hc0_1
 have HR1 := Aside0.mk hr1
 have HC1 := Aside0.mk hc1
 clear hr1 hc1
 have HR2 := Aside0.mk hr2
 have HC2 := Aside0.mk hc2
 clear hr2 hc2
 have HB := Aside0.mk (Below.refl w.heap.size w)
 have H : (mapmakerref38_way.l0 k l1 l2 a3 a4 ([] : List Int) 0 a0_0 l0_1) = some r := h
 clear h
 have H' := Aside0.mk H
 clear H
 go_enter Try.func22, Try.ntmps22
 go_wp2_with (first | ((with_reducible refine gate_dst (N := 5) rfl ?_); refine box_event ?hg (N := 5) ?hd (cs := #[.int .i64 a0_0, .slice A0_1 l0_1.length c0_1]) (t := 24) ?hr ?_; (case hd => rfl); (case hg => rfl); (case hr => first | (go_simp; done) | (go_simp; rfl)); intro gb176 hg w6 hbox hb; have n0_ := Aside0.mk (below_step (by repeat (first | (with_reducible first | exact HB.out | apply below_alloc | apply pw_below_drewN | apply below_drew1) | exact HB.out)) hb); have n1_ := Aside0.mk (hbox); have n2_ := Aside0.mk ((by rw [hg]; exact (below_size (by repeat (first | (with_reducible first | exact HB.out | apply below_alloc | apply pw_below_drewN | apply below_drew1) | exact HB.out))) : w.heap.size ≤ gb176)); have n3_ := n2_; clear HB; have HB := n0_; have BK176 := n1_; have GW176 := n2_; have GE176 := n3_; clear n0_ n1_ n2_ n3_ hb hbox hg))
 repeat (go_quiet (first | ((with_reducible refine gate_dst (N := 5) rfl ?_); refine box_event ?hg (N := 5) ?hd (cs := #[.int .i64 a0_0, .slice A0_1 l0_1.length c0_1]) (t := 24) ?hr ?_; (case hd => rfl); (case hg => rfl); (case hr => first | (go_simp; done) | (go_simp; rfl)); intro gb176 hg w6 hbox hb; have n0_ := Aside0.mk (below_step (by repeat (first | (with_reducible first | exact HB.out | apply below_alloc | apply pw_below_drewN | apply below_drew1) | exact HB.out)) hb); have n1_ := Aside0.mk (hbox); have n2_ := Aside0.mk ((by rw [hg]; exact (below_size (by repeat (first | (with_reducible first | exact HB.out | apply below_alloc | apply pw_below_drewN | apply below_drew1) | exact HB.out))) : w.heap.size ≤ gb176)); have n3_ := n2_; clear HB; have HB := n0_; have BK176 := n1_; have GW176 := n2_; have GE176 := n3_; clear n0_ n1_ n2_ n3_ hb hbox hg)); try go_wp2_with (first | ((with_reducible refine gate_dst (N := 5) rfl ?_); refine box_event ?hg (N := 5) ?hd (cs := #[.int .i64 a0_0, .slice A0_1 l0_1.length c0_1]) (t := 24) ?hr ?_; (case hd => rfl); (case hg => rfl); (case hr => first | (go_simp; done) | (go_simp; rfl)); intro gb176 hg w6 hbox hb; have n0_ := Aside0.mk (below_step (by repeat (first | (with_reducible first | exact HB.out | apply below_alloc | apply pw_below_drewN | apply below_drew1) | exact HB.out)) hb); have n1_ := Aside0.mk (hbox); have n2_ := Aside0.mk ((by rw [hg]; exact (below_size (by repeat (first | (with_reducible first | exact HB.out | apply below_alloc | apply pw_below_drewN | apply below_drew1) | exact HB.out))) : w.heap.size ≤ gb176)); have n3_ := n2_; clear HB; have HB := n0_; have BK176 := n1_; have GW176 := n2_; have GE176 := n3_; clear n0_ n1_ n2_ n3_ hb hbox hg)))
 go_loopg [11, 12] k (fun kq v11 v12 w' => ∃ (x11_1 : List Int) (x12_1 : Int), v12 = .int .i64 x12_1 ∧ Aside0 (mapmakerref38_way.l0 kq l1 l2 a3 a4 x11_1 x12_1 a0_0 l0_1 = some r) ∧ Aside0 (kq ≤ k) ∧ Aside0 (Kd.R (Kd.int .i64) 3 w' w.heap.size (fun _ => True) v11 x11_1) ∧ Aside0 (w'.heap[gb176]? = some (.cells #[.int .i64 a0_0, (.slice A0_1 l0_1.length c0_1)] 24 (0, 0))) ∧ Aside0 (Below w.heap.size w w'))
 case atStart => exact ⟨(([] : List Int)), (0), (by first | rfl | (simp; done) | (simp [*]; done)), H', ⟨Nat.le_refl _⟩, ⟨by first | exact Kd.R_nil _ _ _ _ _ | exact Kd.N_nil _ _ _ _ _ | exact Kd.V_nil _ _ _ _ _ | exact Kd.Q_nil _ _ _ _ _ | exact Kd.S_nil _ _ _ _ _⟩, ⟨by (with_reducible repeat first | apply blk_drewN | apply blk_drew | apply blk_alloc); exact BK176.out⟩, ⟨by repeat (first | (with_reducible first | exact HB.out | apply below_alloc | apply pw_below_drewN | apply below_drew1 | refine below_set ?_ GE176.out) | exact HB.out)⟩⟩
 case round =>
  clear H'
  try clear c1
  try clear c2
  try clear p2
  obtain ⟨x11_1, x12_1, rfl, HA, HK1, HO_11, BK176, HB⟩ := hrel
  cases gk with
  | zero => exact absurd HA.out (by simp [mapmakerref38_way.l0])
  | succ k1 =>
   have H := HA.out
   clear HA
   simp only [mapmakerref38_way.l0] at H
   by_cases c7 : x12_1 < a0_0
   ·rw [if_pos c7] at H
    have c7b0 : decide (x12_1 < a0_0) = true := decide_eq_true c7
    clear c7
    by_cases c8 : x11_1.length < 17592186044416
    ·rw [if_pos c8] at H
     have LMc8 := Aside0.mk c8
     clear c8
     obtain ⟨y177, hy177⟩ : ∃ y_ : List Int, y_ = (x11_1 ++ [(-1)]) := ⟨_, rfl⟩
     replace H : (mapmakerref38_way.l0 k1 l1 l2 a3 a4 y177 (wrap64 (x12_1 + 1)) a0_0 l0_1) = some r := by first | (rw [hy177]; with_reducible exact H) | (have H2_ := (Option.bind_some _ _).symm.trans H; rw [hy177]; with_reducible exact H2_) | (have H2_ := (Option.bind_some _ _).symm.trans H; with_reducible exact H2_) | with_reducible exact H | (rw [hy177]; exact H) | exact H
     have Ny177 := Aside0.mk hy177
     clear hy177
     have H' := Aside0.mk H
     clear H
     have hcz9_0 : wr.cell? ⟨gb176, 0, none⟩ = some (.int .i64 a0_0) := (blk_cell BK176.out 0).trans rfl
     have hcz9_1 : wr.cell? ⟨gb176, 1, none⟩ = some (.slice A0_1 l0_1.length c0_1) := (blk_cell BK176.out 1).trans rfl
     have hfz9_0 := blk_frozen BK176.out 0
     have hfz9_1 := blk_frozen BK176.out 1
     go_wp2_with (first | ((with_reducible refine gate_builtin (b := .append) (xs := #[.tmp 27, .tmp 28]) rfl ?_); at_builtin; refine Kd.R_append (Kd.int .i64) (w0 := w) w.heap.size rfl (.tmp 27) (.tmp 28) 25 3 (.int .i64 0) 8 rfl Try.underlying25 info3 rfl (by decide) (by omega) u11 x11_1 (-1) [.int .i64 (-1)] (fun _ => True) (fun _ => False) rfl rfl ?aP (fun _ hk => hk.elim) ?aF ?aO ?aB ?aS ?aL ?_; (case aP => exact rfl); (case aB => exact (by repeat (first | (with_reducible first | exact HB.out | apply below_alloc | apply pw_below_drewN | apply below_drew1 | refine below_set ?_ GE176.out) | exact HB.out))); (case aF => exact (fun _ _ => trivial)); (case aO => exact (by (with_reducible repeat (first | apply Kd.R_alloc | apply Kd.R_drewN | apply Kd.R_drew)); exact HO_11.out)); (case aS => exact (below_size (by repeat (first | (with_reducible first | exact HB.out | apply below_alloc | apply pw_below_drewN | apply below_drew1 | refine below_set ?_ GE176.out) | exact HB.out)))); (case aL => have := LMc8.out; omega); intro v178 w10 ho hb hg hat; rw [← Ny177.out] at ho; have n0_ := Aside0.mk (blk_grown (by (with_reducible repeat first | apply blk_drewN | apply blk_drew | apply blk_alloc); exact BK176.out) hg (Kd.R_ne HO_11.out BK176.out (by decide))); have n1_ := Aside0.mk (hb); have n2_ := Aside0.mk (ho); clear BK176 HB HO_11; have BK176 := n0_; have HB := n1_; have HO179 := n2_; clear n0_ n1_ n2_ ho hb hg hat))
     repeat (go_quiet (first | ((with_reducible refine gate_builtin (b := .append) (xs := #[.tmp 27, .tmp 28]) rfl ?_); at_builtin; refine Kd.R_append (Kd.int .i64) (w0 := w) w.heap.size rfl (.tmp 27) (.tmp 28) 25 3 (.int .i64 0) 8 rfl Try.underlying25 info3 rfl (by decide) (by omega) u11 x11_1 (-1) [.int .i64 (-1)] (fun _ => True) (fun _ => False) rfl rfl ?aP (fun _ hk => hk.elim) ?aF ?aO ?aB ?aS ?aL ?_; (case aP => exact rfl); (case aB => exact (by repeat (first | (with_reducible first | exact HB.out | apply below_alloc | apply pw_below_drewN | apply below_drew1 | refine below_set ?_ GE176.out) | exact HB.out))); (case aF => exact (fun _ _ => trivial)); (case aO => exact (by (with_reducible repeat (first | apply Kd.R_alloc | apply Kd.R_drewN | apply Kd.R_drew)); exact HO_11.out)); (case aS => exact (below_size (by repeat (first | (with_reducible first | exact HB.out | apply below_alloc | apply pw_below_drewN | apply below_drew1 | refine below_set ?_ GE176.out) | exact HB.out)))); (case aL => have := LMc8.out; omega); intro v178 w10 ho hb hg hat; rw [← Ny177.out] at ho; have n0_ := Aside0.mk (blk_grown (by (with_reducible repeat first | apply blk_drewN | apply blk_drew | apply blk_alloc); exact BK176.out) hg (Kd.R_ne HO_11.out BK176.out (by decide))); have n1_ := Aside0.mk (hb); have n2_ := Aside0.mk (ho); clear BK176 HB HO_11; have BK176 := n0_; have HB := n1_; have HO179 := n2_; clear n0_ n1_ n2_ ho hb hg hat)); try go_wp2_with (first | ((with_reducible refine gate_builtin (b := .append) (xs := #[.tmp 27, .tmp 28]) rfl ?_); at_builtin; refine Kd.R_append (Kd.int .i64) (w0 := w) w.heap.size rfl (.tmp 27) (.tmp 28) 25 3 (.int .i64 0) 8 rfl Try.underlying25 info3 rfl (by decide) (by omega) u11 x11_1 (-1) [.int .i64 (-1)] (fun _ => True) (fun _ => False) rfl rfl ?aP (fun _ hk => hk.elim) ?aF ?aO ?aB ?aS ?aL ?_; (case aP => exact rfl); (case aB => exact (by repeat (first | (with_reducible first | exact HB.out | apply below_alloc | apply pw_below_drewN | apply below_drew1 | refine below_set ?_ GE176.out) | exact HB.out))); (case aF => exact (fun _ _ => trivial)); (case aO => exact (by (with_reducible repeat (first | apply Kd.R_alloc | apply Kd.R_drewN | apply Kd.R_drew)); exact HO_11.out)); (case aS => exact (below_size (by repeat (first | (with_reducible first | exact HB.out | apply below_alloc | apply pw_below_drewN | apply below_drew1 | refine below_set ?_ GE176.out) | exact HB.out)))); (case aL => have := LMc8.out; omega); intro v178 w10 ho hb hg hat; rw [← Ny177.out] at ho; have n0_ := Aside0.mk (blk_grown (by (with_reducible repeat first | apply blk_drewN | apply blk_drew | apply blk_alloc); exact BK176.out) hg (Kd.R_ne HO_11.out BK176.out (by decide))); have n1_ := Aside0.mk (hb); have n2_ := Aside0.mk (ho); clear BK176 HB HO_11; have BK176 := n0_; have HB := n1_; have HO179 := n2_; clear n0_ n1_ n2_ ho hb hg hat)))
     go_roundg k1
     case measure => have := HK1.out; omega
     case rel => exact ⟨(y177), (wrap64 (x12_1 + 1)), (by first | rfl | (simp; done) | (simp [*]; done)), H', ⟨by have := HK1.out; omega⟩, ⟨by (with_reducible repeat (first | apply Kd.R_alloc | apply Kd.R_drewN | apply Kd.R_drew)); exact HO179.out⟩, ⟨by (with_reducible repeat first | apply blk_drewN | apply blk_drew | apply blk_alloc); exact BK176.out⟩, ⟨by repeat (first | (with_reducible first | exact HB.out | apply below_alloc | apply pw_below_drewN | apply below_drew1 | refine below_set ?_ GE176.out) | exact HB.out)⟩⟩
    ·rw [if_neg c8] at H
     exact absurd H (by simp)
   ·rw [if_neg c7] at H
    have c7b0 : decide (x12_1 < a0_0) = false := decide_eq_false c7
    clear c7
    by_cases c11 : 0 ≤ a3
    ·rw [if_pos c11] at H
     have c11b0 : decide (0 ≤ a3) = true := decide_eq_true c11
     clear c11
     by_cases c12 : a3 < (x11_1.length : Int)
     ·rw [if_pos c12] at H
      have c12b0 : decide (a3 < (x11_1.length : Int)) = true := decide_eq_true c12
      clear c12
      obtain ⟨y180, hy180⟩ : ∃ y_ : List Int, y_ = (x11_1.set (a3 : Int).toNat 0) := ⟨_, rfl⟩
      replace H : (mapmakerref38_way.l1 k1 l1 l2 a3 a4 y180 0 a0_0 l0_1) = some r := by first | (rw [hy180]; with_reducible exact H) | (have H2_ := (Option.bind_some _ _).symm.trans H; rw [hy180]; with_reducible exact H2_) | (have H2_ := (Option.bind_some _ _).symm.trans H; with_reducible exact H2_) | with_reducible exact H | (rw [hy180]; exact H) | exact H
      have Ny180 := Aside0.mk hy180
      clear hy180
      have H' := Aside0.mk H
      clear H
      have hcz14_0 : wr.cell? ⟨gb176, 0, none⟩ = some (.int .i64 a0_0) := (blk_cell BK176.out 0).trans rfl
      have hcz14_1 : wr.cell? ⟨gb176, 1, none⟩ = some (.slice A0_1 l0_1.length c0_1) := (blk_cell BK176.out 1).trans rfl
      have hfz14_0 := blk_frozen BK176.out 0
      have hfz14_1 := blk_frozen BK176.out 1
      have p13 : 0 ≤ (a3 : Int) := of_decide_eq_true (by first | (with_reducible assumption) | assumption)
      have q13 : (a3 : Int) < ((x11_1.length : Int) : Int) := of_decide_eq_true (by first | (with_reducible assumption) | assumption)
      obtain ⟨go13, co13, eo13, gb13, gl13, cl13, HG13⟩ := Kd.R_form HO_11.out (by omega)
      (first | cases eo13 | (injection eo13 with ea_ en_ ec_; (first | subst ea_ | (injection ea_ with ea_; subst ea_)); subst ec_; clear en_))
      have GB13 := Aside0.mk gb13
      have GG13 := Aside0.mk HG13
      clear gb13 gl13 HG13
      obtain ⟨hx13_0, hf13_0⟩ := Kd.R_celln 0 HO_11.out (a3 : Int) p13 q13
      replace p13 := eq_true p13
      replace q13 := eq_true q13
      have HP15 := Kd.R_putg HO_11.out (a3 : Int) 0
      go_wp2_with (first | ((with_reducible refine gate_store (t := 3) (p := 32) rfl ?_); (try (rw [drewN_self wr]; generalize hq_ : World.drewN wr _ = wr; have n0_ := Aside0.mk (Kd.R_at hq_ HO_11.out); have n1_ := Aside0.mk (blk_at hq_ BK176.out); have n2_ := Aside0.mk (below_at hq_ HB.out); clear hq_ HO_11 BK176 HB; have HO_11 := n0_; have BK176 := n1_; have HB := n2_; clear n0_ n1_ n2_; (try (have HP15 := Kd.R_putg HO_11.out (a3 : Int) 0)))); refine store_event (t := 3) (p := 32) (v := ?vo_w16) (w1 := (wr.setCell ⟨go13, (a3 : Int).toNat, none⟩ (.int .i64 0))) ?hg ?ho ?hn ?hr ?_; (case ho => rfl); (case hg => rfl); (case hn => rfl); (case hr => first | (go_simp; done) | (go_simp; rfl)); intro w16 hw; have hg : wr.grownBy w16 (some go13) := (by rw [hw]; exact HP15.2); have hp_ : Kd.R (Kd.int .i64) 3 w16 w.heap.size (fun _ => True) (.slice (some ⟨go13, 0, none⟩) x11_1.length co13) y180 := (by rw [hw, Ny180.out]; exact HP15.1); clear HP15; have n0_ := Aside0.mk (hp_); have n1_ := Aside0.mk (blk_grown (by (with_reducible repeat first | apply blk_drewN | apply blk_drew | apply blk_alloc); exact BK176.out) hg (Kd.R_ne HO_11.out BK176.out (by decide))); have n2_ := Aside0.mk ((by rw [hw]; exact below_set (HB.out) GB13.out : Below w.heap.size w w16)); clear HO_11 BK176 HB; have HO_11 := n0_; have BK176 := n1_; have HB := n2_; clear n0_ n1_ n2_ hg hw hp_))
      repeat (go_quiet (first | ((with_reducible refine gate_store (t := 3) (p := 32) rfl ?_); (try (rw [drewN_self wr]; generalize hq_ : World.drewN wr _ = wr; have n0_ := Aside0.mk (Kd.R_at hq_ HO_11.out); have n1_ := Aside0.mk (blk_at hq_ BK176.out); have n2_ := Aside0.mk (below_at hq_ HB.out); clear hq_ HO_11 BK176 HB; have HO_11 := n0_; have BK176 := n1_; have HB := n2_; clear n0_ n1_ n2_; (try (have HP15 := Kd.R_putg HO_11.out (a3 : Int) 0)))); refine store_event (t := 3) (p := 32) (v := ?vo_w16) (w1 := (wr.setCell ⟨go13, (a3 : Int).toNat, none⟩ (.int .i64 0))) ?hg ?ho ?hn ?hr ?_; (case ho => rfl); (case hg => rfl); (case hn => rfl); (case hr => first | (go_simp; done) | (go_simp; rfl)); intro w16 hw; have hg : wr.grownBy w16 (some go13) := (by rw [hw]; exact HP15.2); have hp_ : Kd.R (Kd.int .i64) 3 w16 w.heap.size (fun _ => True) (.slice (some ⟨go13, 0, none⟩) x11_1.length co13) y180 := (by rw [hw, Ny180.out]; exact HP15.1); clear HP15; have n0_ := Aside0.mk (hp_); have n1_ := Aside0.mk (blk_grown (by (with_reducible repeat first | apply blk_drewN | apply blk_drew | apply blk_alloc); exact BK176.out) hg (Kd.R_ne HO_11.out BK176.out (by decide))); have n2_ := Aside0.mk ((by rw [hw]; exact below_set (HB.out) GB13.out : Below w.heap.size w w16)); clear HO_11 BK176 HB; have HO_11 := n0_; have BK176 := n1_; have HB := n2_; clear n0_ n1_ n2_ hg hw hp_)); try go_wp2_with (first | ((with_reducible refine gate_store (t := 3) (p := 32) rfl ?_); (try (rw [drewN_self wr]; generalize hq_ : World.drewN wr _ = wr; have n0_ := Aside0.mk (Kd.R_at hq_ HO_11.out); have n1_ := Aside0.mk (blk_at hq_ BK176.out); have n2_ := Aside0.mk (below_at hq_ HB.out); clear hq_ HO_11 BK176 HB; have HO_11 := n0_; have BK176 := n1_; have HB := n2_; clear n0_ n1_ n2_; (try (have HP15 := Kd.R_putg HO_11.out (a3 : Int) 0)))); refine store_event (t := 3) (p := 32) (v := ?vo_w16) (w1 := (wr.setCell ⟨go13, (a3 : Int).toNat, none⟩ (.int .i64 0))) ?hg ?ho ?hn ?hr ?_; (case ho => rfl); (case hg => rfl); (case hn => rfl); (case hr => first | (go_simp; done) | (go_simp; rfl)); intro w16 hw; have hg : wr.grownBy w16 (some go13) := (by rw [hw]; exact HP15.2); have hp_ : Kd.R (Kd.int .i64) 3 w16 w.heap.size (fun _ => True) (.slice (some ⟨go13, 0, none⟩) x11_1.length co13) y180 := (by rw [hw, Ny180.out]; exact HP15.1); clear HP15; have n0_ := Aside0.mk (hp_); have n1_ := Aside0.mk (blk_grown (by (with_reducible repeat first | apply blk_drewN | apply blk_drew | apply blk_alloc); exact BK176.out) hg (Kd.R_ne HO_11.out BK176.out (by decide))); have n2_ := Aside0.mk ((by rw [hw]; exact below_set (HB.out) GB13.out : Below w.heap.size w w16)); clear HO_11 BK176 HB; have HO_11 := n0_; have BK176 := n1_; have HB := n2_; clear n0_ n1_ n2_ hg hw hp_)))
      go_loopg [13] k1 (fun kq v13 w' => ∃ (x11_2 : List Int) (x13_2 : Int), v13 = .int .i64 x13_2 ∧ Aside0 (mapmakerref38_way.l1 kq l1 l2 a3 a4 x11_2 x13_2 a0_0 l0_1 = some r) ∧ Aside0 (kq ≤ k1) ∧ Aside0 (Kd.R (Kd.int .i64) 3 w' w.heap.size (fun _ => True) (.slice (some ⟨go13, 0, none⟩) x11_1.length co13) x11_2) ∧ Aside0 (w'.heap[gb176]? = some (.cells #[.int .i64 a0_0, (.slice A0_1 l0_1.length c0_1)] 24 (0, 0))) ∧ Aside0 (Below w.heap.size w w'))
      case atStart => exact ⟨(y180), (0), (by first | rfl | (simp; done) | (simp [*]; done)), H', ⟨Nat.le_refl _⟩, ⟨by (with_reducible repeat (first | apply Kd.R_alloc | apply Kd.R_drewN | apply Kd.R_drew)); exact HO_11.out⟩, ⟨by (with_reducible repeat first | apply blk_drewN | apply blk_drew | apply blk_alloc); exact BK176.out⟩, ⟨by repeat (first | (with_reducible first | exact HB.out | apply below_alloc | apply pw_below_drewN | apply below_drew1 | refine below_set ?_ GE176.out) | exact HB.out)⟩⟩
      case round =>
       clear H'
       try clear c1
       try clear p1
       try clear q1
       try clear hx1
       try clear c2
       try clear p2
       try clear p6
       try clear c7
       try clear c7b0
       try clear c8
       try clear c11
       try clear c11b0
       try clear c12
       try clear c12b0
       try clear p13
       try clear q13
       try clear hx13
       try clear hf13
       try clear hcz14_0
       try clear hcz14_1
       try clear hcz9_0
       try clear hcz9_1
       try clear hfz14_0
       try clear hfz14_1
       try clear hfz9_0
       try clear hfz9_1
       try clear hx13_0
       try clear p13
       try clear p2
       try clear q13
       obtain ⟨x11_2, x13_2, rfl, HA, HK2, HO_11, BK176, HB⟩ := hrel
       have hl11_2 := (Kd.R_reads' HO_11.out).1
       rw [hl11_2] at HO_11
       (try simp only [hl11_2])
       (try simp only [hl11_2] at BK176)
       cases gk with
       | zero => exact absurd HA.out (by simp [mapmakerref38_way.l1])
       | succ k2 =>
        have H := HA.out
        clear HA
        simp only [mapmakerref38_way.l1] at H
        by_cases c17 : x13_2 < a0_0
        ·rw [if_pos c17] at H
         have c17b0 : decide (x13_2 < a0_0) = true := decide_eq_true c17
         clear c17
         have H' := Aside0.mk H
         clear H
         have hcz18_0 : wr.cell? ⟨gb176, 0, none⟩ = some (.int .i64 a0_0) := (blk_cell BK176.out 0).trans rfl
         have hcz18_1 : wr.cell? ⟨gb176, 1, none⟩ = some (.slice A0_1 l0_1.length c0_1) := (blk_cell BK176.out 1).trans rfl
         have hfz18_0 := blk_frozen BK176.out 0
         have hfz18_1 := blk_frozen BK176.out 1
         go_wp2
         repeat (go_quiet (fail); try go_wp2)
         go_loopg [14] k2 (fun kq v14 w' => ∃ (x11_3 : List Int) (x14_3 : Int), v14 = .int .i64 x14_3 ∧ Aside0 (mapmakerref38_way.l2 kq l1 l2 a3 a4 x11_3 x13_2 x14_3 a0_0 l0_1 = some r) ∧ Aside0 (kq ≤ k2) ∧ Aside0 (Kd.R (Kd.int .i64) 3 w' w.heap.size (fun _ => True) (.slice (some ⟨go13, 0, none⟩) x11_2.length co13) x11_3) ∧ Aside0 (w'.heap[gb176]? = some (.cells #[.int .i64 a0_0, (.slice A0_1 l0_1.length c0_1)] 24 (0, 0))) ∧ Aside0 (Below w.heap.size w w'))
         case atStart => exact ⟨(x11_2), (0), (by first | rfl | (simp; done) | (simp [*]; done)), H', ⟨Nat.le_refl _⟩, ⟨by (try simp only [hl11_2]); (with_reducible repeat (first | apply Kd.R_alloc | apply Kd.R_drewN | apply Kd.R_drew)); exact HO_11.out⟩, ⟨by (try simp only [hl11_2]); (with_reducible repeat first | apply blk_drewN | apply blk_drew | apply blk_alloc); exact BK176.out⟩, ⟨by repeat (first | (with_reducible first | exact HB.out | apply below_alloc | apply pw_below_drewN | apply below_drew1 | refine below_set ?_ GE176.out) | exact HB.out)⟩⟩
         case round =>
          clear H'
          try clear c1
          try clear p1
          try clear q1
          try clear hx1
          try clear c2
          try clear p2
          try clear p6
          try clear c7
          try clear c7b0
          try clear c8
          try clear c11
          try clear c11b0
          try clear c12
          try clear c12b0
          try clear p13
          try clear q13
          try clear hx13
          try clear hf13
          try clear c17
          try clear c17b0
          try clear hcz14_0
          try clear hcz14_1
          try clear hcz18_0
          try clear hcz18_1
          try clear hcz9_0
          try clear hcz9_1
          try clear hfz14_0
          try clear hfz14_1
          try clear hfz18_0
          try clear hfz18_1
          try clear hfz9_0
          try clear hfz9_1
          try clear hx13_0
          try clear p1
          try clear p13
          try clear p2
          try clear p6
          try clear q1
          try clear q13
          obtain ⟨x11_3, x14_3, rfl, HA, HK3, HO_11, BK176, HB⟩ := hrel
          have hl11_3 := (Kd.R_reads' HO_11.out).1
          rw [hl11_3] at HO_11
          (try simp only [hl11_3])
          (try simp only [hl11_3] at BK176)
          cases gk with
          | zero => exact absurd HA.out (by simp [mapmakerref38_way.l2])
          | succ k3 =>
           have H := HA.out
           clear HA
           simp only [mapmakerref38_way.l2] at H
           by_cases c19 : x14_3 < (l0_1.length : Int)
           ·rw [if_pos c19] at H
            have c19b0 : decide (x14_3 < (l0_1.length : Int)) = true := decide_eq_true c19
            clear c19
            by_cases c20 : 0 ≤ x14_3
            ·rw [if_pos c20] at H
             have c20b0 : decide (0 ≤ x14_3) = true := decide_eq_true c20
             clear c20
             by_cases c21 : x14_3 < (l1.length : Int)
             ·rw [if_pos c21] at H
              have c21b0 : decide (x14_3 < (l1.length : Int)) = true := decide_eq_true c21
              clear c21
              by_cases c22 : (rd l1 x14_3) ≥ 0
              ·rw [if_pos c22] at H
               have c22b0 : decide (0 ≤ (rd l1 x14_3)) = true := decide_eq_true c22
               clear c22
               by_cases c23 : 0 ≤ ((rd_T40 l0_1 x14_3).f0)
               ·rw [if_pos c23] at H
                have c23b0 : decide (0 ≤ ((rd_T40 l0_1 x14_3).f0)) = true := decide_eq_true c23
                clear c23
                by_cases c24 : ((rd_T40 l0_1 x14_3).f0) < (x11_3.length : Int)
                ·rw [if_pos c24] at H
                 have c24b0 : decide (((rd_T40 l0_1 x14_3).f0) < (x11_3.length : Int)) = true := decide_eq_true c24
                 clear c24
                 by_cases c25 : (rd x11_3 ((rd_T40 l0_1 x14_3).f0)) = x13_2
                 ·rw [if_pos c25] at H
                  have c25b0 : ((rd x11_3 ((rd_T40 l0_1 x14_3).f0)) == x13_2) = true := beq_iff_eq.mpr c25
                  have c25b1 : ((rd x11_3 ((rd_T40 l0_1 x14_3).f0)) != x13_2) = false := bne_eq_false_iff_eq.mpr c25
                  clear c25
                  by_cases c26 : 0 ≤ ((rd_T40 l0_1 x14_3).f1)
                  ·rw [if_pos c26] at H
                   have c26b0 : decide (0 ≤ ((rd_T40 l0_1 x14_3).f1)) = true := decide_eq_true c26
                   clear c26
                   by_cases c27 : ((rd_T40 l0_1 x14_3).f1) < (x11_3.length : Int)
                   ·rw [if_pos c27] at H
                    have c27b0 : decide (((rd_T40 l0_1 x14_3).f1) < (x11_3.length : Int)) = true := decide_eq_true c27
                    clear c27
                    by_cases c28 : (rd x11_3 ((rd_T40 l0_1 x14_3).f1)) < 0
                    ·rw [if_pos c28] at H
                     have c28b0 : decide ((rd x11_3 ((rd_T40 l0_1 x14_3).f1)) < 0) = true := decide_eq_true c28
                     clear c28
                     by_cases c29 : ((rd_T40 l0_1 x14_3).f0) < (l2.length : Int)
                     ·rw [if_pos c29] at H
                      have c29b0 : decide (((rd_T40 l0_1 x14_3).f0) < (l2.length : Int)) = true := decide_eq_true c29
                      clear c29
                      by_cases c30 : ((rd_T40 l0_1 x14_3).f1) < (l2.length : Int)
                      ·rw [if_pos c30] at H
                       have c30b0 : decide (((rd_T40 l0_1 x14_3).f1) < (l2.length : Int)) = true := decide_eq_true c30
                       clear c30
                       by_cases c31 : (wrap64 ((rd l2 ((rd_T40 l0_1 x14_3).f0)) + (rd l1 x14_3))) = (rd l2 ((rd_T40 l0_1 x14_3).f1))
                       ·rw [if_pos c31] at H
                        have c31b0 : ((wrap64 ((rd l2 ((rd_T40 l0_1 x14_3).f0)) + (rd l1 x14_3))) == (rd l2 ((rd_T40 l0_1 x14_3).f1))) = true := beq_iff_eq.mpr c31
                        have c31b1 : ((wrap64 ((rd l2 ((rd_T40 l0_1 x14_3).f0)) + (rd l1 x14_3))) != (rd l2 ((rd_T40 l0_1 x14_3).f1))) = false := bne_eq_false_iff_eq.mpr c31
                        clear c31
                        obtain ⟨y189, hy189⟩ : ∃ y_ : List Int, y_ = (x11_3.set (((rd_T40 l0_1 x14_3).f1) : Int).toNat (wrap64 (x13_2 + 1))) := ⟨_, rfl⟩
                        replace H : (mapmakerref38_way.l2 k3 l1 l2 a3 a4 y189 x13_2 (wrap64 (x14_3 + 1)) a0_0 l0_1) = some r := by first | (rw [hy189]; with_reducible exact H) | (have H2_ := (Option.bind_some _ _).symm.trans H; rw [hy189]; with_reducible exact H2_) | (have H2_ := (Option.bind_some _ _).symm.trans H; with_reducible exact H2_) | with_reducible exact H | (rw [hy189]; exact H) | exact H
                        have Ny189 := Aside0.mk hy189
                        clear hy189
                        have H' := Aside0.mk H
                        clear H
                        have hcz33_0 : wr.cell? ⟨gb176, 0, none⟩ = some (.int .i64 a0_0) := (blk_cell BK176.out 0).trans rfl
                        have hcz33_1 : wr.cell? ⟨gb176, 1, none⟩ = some (.slice A0_1 l0_1.length c0_1) := (blk_cell BK176.out 1).trans rfl
                        have hfz33_0 := blk_frozen BK176.out 0
                        have hfz33_1 := blk_frozen BK176.out 1
                        have p181 : 0 ≤ (x14_3 : Int) := of_decide_eq_true (by first | (with_reducible assumption) | assumption)
                        have q181 : x14_3 < (l0_1.length : Int) := of_decide_eq_true (by first | (with_reducible assumption) | assumption)
                        obtain ⟨ad181, e181, hx181_0, hx181_1⟩ := at_T40 HR0_1.out x14_3 p181 q181
                        cases e181
                        replace hx181_0 := (HB.out.cell (World.block_lt_of_cell? w _ hx181_0)).trans hx181_0
                        replace hx181_1 := (HB.out.cell (World.block_lt_of_cell? w _ hx181_1)).trans hx181_1
                        replace p181 := eq_true p181
                        replace q181 := eq_true q181
                        iterate 3 (go_wp2_with (first | ((with_reducible refine gate_dst (N := 15) rfl ?_); refine box_event ?hg (N := 15) ?hd (cs := #[.int .i64 0, .int .i64 0]) (t := 40) ?hr ?_; (case hd => rfl); (case hg => rfl); (case hr => first | (go_simp; done) | (go_simp; rfl)); intro gb182 hg w34 hbox hb; have n0_ := Aside0.mk (Kd.R_below (by (with_reducible repeat (first | apply Kd.R_alloc | apply Kd.R_drewN | apply Kd.R_drew)); exact HO_11.out) hb); have n1_ := Aside0.mk (blk_below (by (with_reducible repeat first | apply blk_drewN | apply blk_drew | apply blk_alloc); exact BK176.out) hb); have n2_ := Aside0.mk (below_step (by repeat (first | (with_reducible first | exact HB.out | apply below_alloc | apply pw_below_drewN | apply below_drew1 | refine below_set ?_ GE176.out) | exact HB.out)) hb); have n3_ := Aside0.mk (hbox); have n4_ := Aside0.mk ((by rw [hg]; exact (below_size (by repeat (first | (with_reducible first | exact HB.out | apply below_alloc | apply pw_below_drewN | apply below_drew1 | refine below_set ?_ GE176.out) | exact HB.out))) : w.heap.size ≤ gb182)); have n5_ := n4_; have n6_ := Aside0.mk ((by rw [hg]; exact Nat.ne_of_lt (blk_lt (by (with_reducible repeat first | apply blk_drewN | apply blk_drew | apply blk_alloc); exact BK176.out)) : gb176 ≠ gb182)); have n7_ : Aside0 (gb182 ≠ gb176) := ⟨Ne.symm n6_.out⟩; clear HO_11 BK176 HB; have HO_11 := n0_; have BK176 := n1_; have HB := n2_; have BK182 := n3_; have GW182 := n4_; have GE182 := n5_; have NB176_182 := n6_; have NB182_176 := n7_; clear n0_ n1_ n2_ n3_ n4_ n5_ n6_ n7_ hb hbox hg; have hnb35 := NB182_176.out; have hnc35 := NB176_182.out; have hcz36_0 : w34.cell? ⟨gb182, 0, none⟩ = some (.int .i64 0) := (blk_cell BK182.out 0).trans rfl; have hcz36_1 : w34.cell? ⟨gb182, 1, none⟩ = some (.int .i64 0) := (blk_cell BK182.out 1).trans rfl; have hfz36_0 := blk_frozen BK182.out 0; have hfz36_1 := blk_frozen BK182.out 1) | ((with_reducible refine gate_store (t := 40) (p := 15) rfl ?_); (try (rw [drewN_self w34]; generalize hq_ : World.drewN w34 _ = w34; have n0_ := Aside0.mk (Kd.R_at hq_ HO_11.out); have n1_ := Aside0.mk (blk_at hq_ BK176.out); have n2_ := Aside0.mk (blk_at hq_ BK182.out); have n3_ := Aside0.mk (below_at hq_ HB.out); clear hq_ HO_11 BK176 BK182 HB; have HO_11 := n0_; have BK176 := n1_; have BK182 := n2_; have HB := n3_; clear n0_ n1_ n2_ n3_)); refine store_event (t := 40) (p := 15) (v := ?vo_w37) (w1 := ((w34.setCell ⟨gb182, 0, none⟩ (.int .i64 ((rd_T40 l0_1 x14_3).f0))).setCell ⟨gb182, 1, none⟩ (.int .i64 ((rd_T40 l0_1 x14_3).f1)))) ?hg ?ho ?hn ?hr ?_; (case ho => rfl); (case hg => rfl); (case hn => rfl); (case hr => first | (go_simp; done) | (go_simp; rfl)); intro w37 hw; have n0_ : Aside0 (Kd.R (Kd.int .i64) 3 w37 w.heap.size (fun _ => True) (.slice (some ⟨go13, 0, none⟩) x11_3.length co13) x11_3) := ⟨(by rw [hw]; exact (by (with_reducible repeat (first | apply Kd.R_alloc | apply Kd.R_drewN | apply Kd.R_drew)); exact Kd.R_mono (Kd.R_far (p := ⟨gb182, 1, none⟩) (Kd.R_far (p := ⟨gb182, 0, none⟩) (Kd.R_types HO_11.out BK182.out (by decide)) (fun _ hk => hk.2) (.int .i64 ((rd_T40 l0_1 x14_3).f0))) (fun _ hk => hk.2) (.int .i64 ((rd_T40 l0_1 x14_3).f1))) (fun _ hk => trivial)))⟩; have n1_ : Aside0 (w37.heap[gb176]? = some (.cells #[.int .i64 a0_0, .slice (some ad181) l0_1.length c0_1] 24 (0, 0))) := ⟨(by rw [hw]; exact (by (iterate 2 ((with_reducible repeat first | apply blk_drewN | apply blk_drew | apply blk_alloc); refine blk_far ?_ NB176_182.out _)); (with_reducible repeat first | apply blk_drewN | apply blk_drew | apply blk_alloc); exact BK176.out))⟩; have n2_ : Aside0 (w37.heap[gb182]? = some (.cells #[.int .i64 ((rd_T40 l0_1 x14_3).f0), .int .i64 ((rd_T40 l0_1 x14_3).f1)] 40 (0, 0))) := ⟨(by rw [hw]; exact (by (with_reducible repeat first | apply blk_drewN | apply blk_drew | apply blk_alloc); refine blk_put (cs := #[.int .i64 ((rd_T40 l0_1 x14_3).f0), .int .i64 0]) ?_ 1 _ rfl; (with_reducible repeat first | apply blk_drewN | apply blk_drew | apply blk_alloc); refine blk_put (cs := #[.int .i64 0, .int .i64 0]) ?_ 0 _ rfl; (with_reducible repeat first | apply blk_drewN | apply blk_drew | apply blk_alloc); exact BK182.out))⟩; have n3_ : Aside0 (Below w.heap.size w w37) := ⟨(by rw [hw]; exact (by repeat (first | (with_reducible first | exact HB.out | apply below_alloc | apply pw_below_drewN | apply below_drew1 | refine below_set ?_ GE176.out | refine below_set ?_ GE182.out) | exact HB.out)))⟩; clear hw HO_11 BK176 BK182 HB; have HO_11 := n0_; have BK176 := n1_; have BK182 := n2_; have HB := n3_; clear n0_ n1_ n2_ n3_; have p183 : 0 ≤ (x14_3 : Int) := of_decide_eq_true (by first | (with_reducible assumption) | assumption); have q183 : x14_3 < (l1.length : Int) := of_decide_eq_true (by first | (with_reducible assumption) | assumption); obtain ⟨ad183, e183, hx183_0⟩ := Kd.at_int HR1.out x14_3 p183 q183; cases e183; replace hx183_0 := (HB.out.cell (World.block_lt_of_cell? w _ hx183_0)).trans hx183_0; replace p183 := eq_true p183; replace q183 := eq_true q183; have hcz38_0 : w37.cell? ⟨gb182, 0, none⟩ = some (.int .i64 ((rd_T40 l0_1 x14_3).f0)) := (blk_cell BK182.out 0).trans rfl; have hcz38_1 : w37.cell? ⟨gb182, 1, none⟩ = some (.int .i64 ((rd_T40 l0_1 x14_3).f1)) := (blk_cell BK182.out 1).trans rfl; have hfz38_0 := blk_frozen BK182.out 0; have hfz38_1 := blk_frozen BK182.out 1; have p184 : 0 ≤ (((rd_T40 l0_1 x14_3).f0) : Int) := of_decide_eq_true (by first | (with_reducible assumption) | assumption); have q184 : ((rd_T40 l0_1 x14_3).f0) < (x11_3.length : Int) := of_decide_eq_true (by first | (with_reducible assumption) | assumption); obtain ⟨ad184, e184, hx184_0⟩ := Kd.at_int (Kd.R_reads' HO_11.out).2.2 ((rd_T40 l0_1 x14_3).f0) p184 q184; obtain rfl : (⟨go13, 0, none⟩ : Addr) = ad184 := (by injection e184); (first | simp only [add_plain] at hx184_0 | simp only [add_at] at hx184_0 | simp only [Addr.add, Nat.zero_add] at hx184_0 | skip); replace p184 := eq_true p184; replace q184 := eq_true q184; have p185 : 0 ≤ (((rd_T40 l0_1 x14_3).f1) : Int) := of_decide_eq_true (by first | (with_reducible assumption) | assumption); have q185 : ((rd_T40 l0_1 x14_3).f1) < (x11_3.length : Int) := of_decide_eq_true (by first | (with_reducible assumption) | assumption); obtain ⟨ad185, e185, hx185_0⟩ := Kd.at_int (Kd.R_reads' HO_11.out).2.2 ((rd_T40 l0_1 x14_3).f1) p185 q185; obtain rfl : (⟨go13, 0, none⟩ : Addr) = ad185 := (by injection e185); (first | simp only [add_plain] at hx185_0 | simp only [add_at] at hx185_0 | simp only [Addr.add, Nat.zero_add] at hx185_0 | skip); replace p185 := eq_true p185; replace q185 := eq_true q185; have p186 : 0 ≤ (((rd_T40 l0_1 x14_3).f0) : Int) := of_decide_eq_true (by first | (with_reducible assumption) | assumption); have q186 : ((rd_T40 l0_1 x14_3).f0) < (l2.length : Int) := of_decide_eq_true (by first | (with_reducible assumption) | assumption); obtain ⟨ad186, e186, hx186_0⟩ := Kd.at_int HR2.out ((rd_T40 l0_1 x14_3).f0) p186 q186; cases e186; replace hx186_0 := (HB.out.cell (World.block_lt_of_cell? w _ hx186_0)).trans hx186_0; replace p186 := eq_true p186; replace q186 := eq_true q186; have p187 : 0 ≤ (x14_3 : Int) := of_decide_eq_true (by first | (with_reducible assumption) | assumption); have q187 : x14_3 < (l1.length : Int) := of_decide_eq_true (by first | (with_reducible assumption) | assumption); obtain ⟨ad187, e187, hx187_0⟩ := Kd.at_int HR1.out x14_3 p187 q187; obtain rfl : ad183 = ad187 := (by injection e187); replace hx187_0 := (HB.out.cell (World.block_lt_of_cell? w _ hx187_0)).trans hx187_0; replace p187 := eq_true p187; replace q187 := eq_true q187; have p188 : 0 ≤ (((rd_T40 l0_1 x14_3).f1) : Int) := of_decide_eq_true (by first | (with_reducible assumption) | assumption); have q188 : ((rd_T40 l0_1 x14_3).f1) < (l2.length : Int) := of_decide_eq_true (by first | (with_reducible assumption) | assumption); obtain ⟨ad188, e188, hx188_0⟩ := Kd.at_int HR2.out ((rd_T40 l0_1 x14_3).f1) p188 q188; obtain rfl : ad186 = ad188 := (by injection e188); replace hx188_0 := (HB.out.cell (World.block_lt_of_cell? w _ hx188_0)).trans hx188_0; replace p188 := eq_true p188; replace q188 := eq_true q188; have p32 : 0 ≤ (((rd_T40 l0_1 x14_3).f1) : Int) := of_decide_eq_true (by first | (with_reducible assumption) | assumption); have q32 : (((rd_T40 l0_1 x14_3).f1) : Int) < ((x11_3.length : Int) : Int) := of_decide_eq_true (by first | (with_reducible assumption) | assumption); obtain ⟨hx32_0, hf32_0⟩ := Kd.R_celln 0 HO_11.out (((rd_T40 l0_1 x14_3).f1) : Int) p32 q32; replace p32 := eq_true p32; replace q32 := eq_true q32; obtain ⟨hy39_, hz39_⟩ := Kd.R_celln 0 HO_11.out (((rd_T40 l0_1 x14_3).f1) : Int) (of_decide_eq_true (by first | (with_reducible assumption) | assumption)) (of_decide_eq_true (by first | (with_reducible assumption) | assumption)); have HP39 := Kd.R_putg HO_11.out (((rd_T40 l0_1 x14_3).f1) : Int) (wrap64 (x13_2 + 1))) | ((with_reducible refine gate_store (t := 3) (p := 96) rfl ?_); (try (rw [drewN_self w37]; generalize hq_ : World.drewN w37 _ = w37; have n0_ := Aside0.mk (Kd.R_at hq_ HO_11.out); have n1_ := Aside0.mk (blk_at hq_ BK176.out); have n2_ := Aside0.mk (blk_at hq_ BK182.out); have n3_ := Aside0.mk (below_at hq_ HB.out); clear hq_ HO_11 BK176 BK182 HB; have HO_11 := n0_; have BK176 := n1_; have BK182 := n2_; have HB := n3_; clear n0_ n1_ n2_ n3_; (try (obtain ⟨hy39_, hz39_⟩ := Kd.R_celln 0 HO_11.out (((rd_T40 l0_1 x14_3).f1) : Int) (of_decide_eq_true (by first | (with_reducible assumption) | assumption)) (of_decide_eq_true (by first | (with_reducible assumption) | assumption)))); (try (have HP39 := Kd.R_putg HO_11.out (((rd_T40 l0_1 x14_3).f1) : Int) (wrap64 (x13_2 + 1)))))); refine store_event (t := 3) (p := 96) (v := ?vo_w40) (w1 := (w37.setCell ⟨go13, (((rd_T40 l0_1 x14_3).f1) : Int).toNat, none⟩ (.int .i64 (wrap64 (x13_2 + 1))))) ?hg ?ho ?hn ?hr ?_; (case ho => rfl); (case hg => rfl); (case hn => rfl); (case hr => first | (go_simp; done) | (go_simp; rfl)); intro w40 hw; have hg : w37.grownBy w40 (some go13) := (by rw [hw]; exact HP39.2); have hp_ : Kd.R (Kd.int .i64) 3 w40 w.heap.size (fun _ => True) (.slice (some ⟨go13, 0, none⟩) x11_3.length co13) y189 := (by rw [hw, Ny189.out]; exact HP39.1); clear HP39; have n0_ := Aside0.mk (hp_); have n1_ := Aside0.mk (blk_grown (by (with_reducible repeat first | apply blk_drewN | apply blk_drew | apply blk_alloc); exact BK176.out) hg (Kd.R_ne HO_11.out BK176.out (by decide))); have n2_ := Aside0.mk (blk_grown (by (with_reducible repeat first | apply blk_drewN | apply blk_drew | apply blk_alloc); exact BK182.out) hg (Kd.R_ne HO_11.out BK182.out (by decide))); have n3_ := Aside0.mk ((by rw [hw]; exact below_set (HB.out) GB13.out : Below w.heap.size w w40)); clear HO_11 BK176 BK182 HB; have HO_11 := n0_; have BK176 := n1_; have BK182 := n2_; have HB := n3_; clear n0_ n1_ n2_ n3_ hg hw hp_)); try go_quiet (fail))
                        (try simp only [← hl11_3])
                        go_roundg k3
                        case measure => have := HK1.out; have := HK2.out; have := HK3.out; omega
                        case rel => exact ⟨(y189), (wrap64 (x14_3 + 1)), (by first | rfl | (simp; done) | (simp [*]; done)), H', ⟨by have := HK1.out; have := HK2.out; have := HK3.out; omega⟩, ⟨by (try simp only [hl11_2]); (try simp only [hl11_3]); (with_reducible repeat (first | apply Kd.R_alloc | apply Kd.R_drewN | apply Kd.R_drew)); exact HO_11.out⟩, ⟨by (try simp only [hl11_2]); (try simp only [hl11_3]); (with_reducible repeat first | apply blk_drewN | apply blk_drew | apply blk_alloc); exact BK176.out⟩, ⟨by repeat (first | (with_reducible first | exact HB.out | apply below_alloc | apply pw_below_drewN | apply below_drew1 | refine below_set ?_ GE176.out | refine below_set ?_ GE182.out) | exact HB.out)⟩⟩
                       ·rw [if_neg c31] at H
                        have c31b0 : ((wrap64 ((rd l2 ((rd_T40 l0_1 x14_3).f0)) + (rd l1 x14_3))) == (rd l2 ((rd_T40 l0_1 x14_3).f1))) = false := beq_eq_false_iff_ne.mpr c31
                        have c31b1 : ((wrap64 ((rd l2 ((rd_T40 l0_1 x14_3).f0)) + (rd l1 x14_3))) != (rd l2 ((rd_T40 l0_1 x14_3).f1))) = true := bne_iff_ne.mpr c31
                        have H' := Aside0.mk H
                        clear H
                        have hcz41_0 : wr.cell? ⟨gb176, 0, none⟩ = some (.int .i64 a0_0) := (blk_cell BK176.out 0).trans rfl
                        have hcz41_1 : wr.cell? ⟨gb176, 1, none⟩ = some (.slice A0_1 l0_1.length c0_1) := (blk_cell BK176.out 1).trans rfl
                        have hfz41_0 := blk_frozen BK176.out 0
                        have hfz41_1 := blk_frozen BK176.out 1
                        have p181 : 0 ≤ (x14_3 : Int) := of_decide_eq_true (by first | (with_reducible assumption) | assumption)
                        have q181 : x14_3 < (l0_1.length : Int) := of_decide_eq_true (by first | (with_reducible assumption) | assumption)
                        obtain ⟨ad181, e181, hx181_0, hx181_1⟩ := at_T40 HR0_1.out x14_3 p181 q181
                        cases e181
                        replace hx181_0 := (HB.out.cell (World.block_lt_of_cell? w _ hx181_0)).trans hx181_0
                        replace hx181_1 := (HB.out.cell (World.block_lt_of_cell? w _ hx181_1)).trans hx181_1
                        replace p181 := eq_true p181
                        replace q181 := eq_true q181
                        iterate 3 (go_wp2_with (first | ((with_reducible refine gate_dst (N := 15) rfl ?_); refine box_event ?hg (N := 15) ?hd (cs := #[.int .i64 0, .int .i64 0]) (t := 40) ?hr ?_; (case hd => rfl); (case hg => rfl); (case hr => first | (go_simp; done) | (go_simp; rfl)); intro gb182 hg w42 hbox hb; have n0_ := Aside0.mk (Kd.R_below (by (with_reducible repeat (first | apply Kd.R_alloc | apply Kd.R_drewN | apply Kd.R_drew)); exact HO_11.out) hb); have n1_ := Aside0.mk (blk_below (by (with_reducible repeat first | apply blk_drewN | apply blk_drew | apply blk_alloc); exact BK176.out) hb); have n2_ := Aside0.mk (below_step (by repeat (first | (with_reducible first | exact HB.out | apply below_alloc | apply pw_below_drewN | apply below_drew1 | refine below_set ?_ GE176.out) | exact HB.out)) hb); have n3_ := Aside0.mk (hbox); have n4_ := Aside0.mk ((by rw [hg]; exact (below_size (by repeat (first | (with_reducible first | exact HB.out | apply below_alloc | apply pw_below_drewN | apply below_drew1 | refine below_set ?_ GE176.out) | exact HB.out))) : w.heap.size ≤ gb182)); have n5_ := n4_; have n6_ := Aside0.mk ((by rw [hg]; exact Nat.ne_of_lt (blk_lt (by (with_reducible repeat first | apply blk_drewN | apply blk_drew | apply blk_alloc); exact BK176.out)) : gb176 ≠ gb182)); have n7_ : Aside0 (gb182 ≠ gb176) := ⟨Ne.symm n6_.out⟩; clear HO_11 BK176 HB; have HO_11 := n0_; have BK176 := n1_; have HB := n2_; have BK182 := n3_; have GW182 := n4_; have GE182 := n5_; have NB176_182 := n6_; have NB182_176 := n7_; clear n0_ n1_ n2_ n3_ n4_ n5_ n6_ n7_ hb hbox hg; have hnb43 := NB182_176.out; have hnc43 := NB176_182.out; have hcz44_0 : w42.cell? ⟨gb182, 0, none⟩ = some (.int .i64 0) := (blk_cell BK182.out 0).trans rfl; have hcz44_1 : w42.cell? ⟨gb182, 1, none⟩ = some (.int .i64 0) := (blk_cell BK182.out 1).trans rfl; have hfz44_0 := blk_frozen BK182.out 0; have hfz44_1 := blk_frozen BK182.out 1; have p183 : 0 ≤ (x14_3 : Int) := of_decide_eq_true (by first | (with_reducible assumption) | assumption); have q183 : x14_3 < (l1.length : Int) := of_decide_eq_true (by first | (with_reducible assumption) | assumption); obtain ⟨ad183, e183, hx183_0⟩ := Kd.at_int HR1.out x14_3 p183 q183; cases e183; have hn183_0 : ad183.block ≠ gb182 := Nat.ne_of_lt (Nat.lt_of_lt_of_le (by have := World.block_lt_of_cell? _ _ hx183_0; first | rwa [add_block] at this | exact this) GW182.out); have hn183_1 : ad183.block ≠ gb182 := Nat.ne_of_lt (Nat.lt_of_lt_of_le (by have := World.block_lt_of_cell? _ _ hx183_0; first | rwa [add_block] at this | exact this) GW182.out); replace hx183_0 := (HB.out.cell (World.block_lt_of_cell? w _ hx183_0)).trans hx183_0; replace hx183_0 := (cell_far (p := ⟨gb182, 0, none⟩) (by first | (rw [add_block]; exact hn183_0) | (show (Addr.add _ _).block ≠ _; rw [add_block]; exact hn183_0) | exact hn183_0) (.int .i64 ((rd_T40 l0_1 x14_3).f0))).trans hx183_0; replace hx183_0 := (cell_far (p := ⟨gb182, 1, none⟩) (by first | (rw [add_block]; exact hn183_1) | (show (Addr.add _ _).block ≠ _; rw [add_block]; exact hn183_1) | exact hn183_1) (.int .i64 ((rd_T40 l0_1 x14_3).f1))).trans hx183_0; (try have hy183_0 := fun (n_ : Nat) => (show ((((w42.drewN n_).setCell ⟨gb182, 0, none⟩ (.int .i64 ((rd_T40 l0_1 x14_3).f0))).setCell ⟨gb182, 1, none⟩ (.int .i64 ((rd_T40 l0_1 x14_3).f1)))).cell? _ = some _ from hx183_0)); clear hn183_0 hn183_1; replace p183 := eq_true p183; replace q183 := eq_true q183; have p184 : 0 ≤ (((rd_T40 l0_1 x14_3).f0) : Int) := of_decide_eq_true (by first | (with_reducible assumption) | assumption); have q184 : ((rd_T40 l0_1 x14_3).f0) < (x11_3.length : Int) := of_decide_eq_true (by first | (with_reducible assumption) | assumption); obtain ⟨ad184, e184, hx184_0⟩ := Kd.at_int (Kd.R_reads' HO_11.out).2.2 ((rd_T40 l0_1 x14_3).f0) p184 q184; obtain rfl : (⟨go13, 0, none⟩ : Addr) = ad184 := (by injection e184); (first | simp only [add_plain] at hx184_0 | simp only [add_at] at hx184_0 | simp only [Addr.add, Nat.zero_add] at hx184_0 | skip); have hn184_0 : (⟨go13, 0, none⟩ : Addr).block ≠ gb182 := Kd.own_blk (Kd.R_ne HO_11.out BK182.out (by decide)); have hn184_1 : (⟨go13, 0, none⟩ : Addr).block ≠ gb182 := Kd.own_blk (Kd.R_ne HO_11.out BK182.out (by decide)); replace hx184_0 := (cell_far (p := ⟨gb182, 0, none⟩) (by first | (rw [add_block]; exact hn184_0) | (show (Addr.add _ _).block ≠ _; rw [add_block]; exact hn184_0) | exact hn184_0) (.int .i64 ((rd_T40 l0_1 x14_3).f0))).trans hx184_0; replace hx184_0 := (cell_far (p := ⟨gb182, 1, none⟩) (by first | (rw [add_block]; exact hn184_1) | (show (Addr.add _ _).block ≠ _; rw [add_block]; exact hn184_1) | exact hn184_1) (.int .i64 ((rd_T40 l0_1 x14_3).f1))).trans hx184_0; (try have hy184_0 := fun (n_ : Nat) => (show ((((w42.drewN n_).setCell ⟨gb182, 0, none⟩ (.int .i64 ((rd_T40 l0_1 x14_3).f0))).setCell ⟨gb182, 1, none⟩ (.int .i64 ((rd_T40 l0_1 x14_3).f1)))).cell? _ = some _ from hx184_0)); clear hn184_0 hn184_1; replace p184 := eq_true p184; replace q184 := eq_true q184; have p185 : 0 ≤ (((rd_T40 l0_1 x14_3).f1) : Int) := of_decide_eq_true (by first | (with_reducible assumption) | assumption); have q185 : ((rd_T40 l0_1 x14_3).f1) < (x11_3.length : Int) := of_decide_eq_true (by first | (with_reducible assumption) | assumption); obtain ⟨ad185, e185, hx185_0⟩ := Kd.at_int (Kd.R_reads' HO_11.out).2.2 ((rd_T40 l0_1 x14_3).f1) p185 q185; obtain rfl : (⟨go13, 0, none⟩ : Addr) = ad185 := (by injection e185); (first | simp only [add_plain] at hx185_0 | simp only [add_at] at hx185_0 | simp only [Addr.add, Nat.zero_add] at hx185_0 | skip); have hn185_0 : (⟨go13, 0, none⟩ : Addr).block ≠ gb182 := Kd.own_blk (Kd.R_ne HO_11.out BK182.out (by decide)); have hn185_1 : (⟨go13, 0, none⟩ : Addr).block ≠ gb182 := Kd.own_blk (Kd.R_ne HO_11.out BK182.out (by decide)); replace hx185_0 := (cell_far (p := ⟨gb182, 0, none⟩) (by first | (rw [add_block]; exact hn185_0) | (show (Addr.add _ _).block ≠ _; rw [add_block]; exact hn185_0) | exact hn185_0) (.int .i64 ((rd_T40 l0_1 x14_3).f0))).trans hx185_0; replace hx185_0 := (cell_far (p := ⟨gb182, 1, none⟩) (by first | (rw [add_block]; exact hn185_1) | (show (Addr.add _ _).block ≠ _; rw [add_block]; exact hn185_1) | exact hn185_1) (.int .i64 ((rd_T40 l0_1 x14_3).f1))).trans hx185_0; (try have hy185_0 := fun (n_ : Nat) => (show ((((w42.drewN n_).setCell ⟨gb182, 0, none⟩ (.int .i64 ((rd_T40 l0_1 x14_3).f0))).setCell ⟨gb182, 1, none⟩ (.int .i64 ((rd_T40 l0_1 x14_3).f1)))).cell? _ = some _ from hx185_0)); clear hn185_0 hn185_1; replace p185 := eq_true p185; replace q185 := eq_true q185; have p186 : 0 ≤ (((rd_T40 l0_1 x14_3).f0) : Int) := of_decide_eq_true (by first | (with_reducible assumption) | assumption); have q186 : ((rd_T40 l0_1 x14_3).f0) < (l2.length : Int) := of_decide_eq_true (by first | (with_reducible assumption) | assumption); obtain ⟨ad186, e186, hx186_0⟩ := Kd.at_int HR2.out ((rd_T40 l0_1 x14_3).f0) p186 q186; cases e186; have hn186_0 : ad186.block ≠ gb182 := Nat.ne_of_lt (Nat.lt_of_lt_of_le (by have := World.block_lt_of_cell? _ _ hx186_0; first | rwa [add_block] at this | exact this) GW182.out); have hn186_1 : ad186.block ≠ gb182 := Nat.ne_of_lt (Nat.lt_of_lt_of_le (by have := World.block_lt_of_cell? _ _ hx186_0; first | rwa [add_block] at this | exact this) GW182.out); replace hx186_0 := (HB.out.cell (World.block_lt_of_cell? w _ hx186_0)).trans hx186_0; replace hx186_0 := (cell_far (p := ⟨gb182, 0, none⟩) (by first | (rw [add_block]; exact hn186_0) | (show (Addr.add _ _).block ≠ _; rw [add_block]; exact hn186_0) | exact hn186_0) (.int .i64 ((rd_T40 l0_1 x14_3).f0))).trans hx186_0; replace hx186_0 := (cell_far (p := ⟨gb182, 1, none⟩) (by first | (rw [add_block]; exact hn186_1) | (show (Addr.add _ _).block ≠ _; rw [add_block]; exact hn186_1) | exact hn186_1) (.int .i64 ((rd_T40 l0_1 x14_3).f1))).trans hx186_0; (try have hy186_0 := fun (n_ : Nat) => (show ((((w42.drewN n_).setCell ⟨gb182, 0, none⟩ (.int .i64 ((rd_T40 l0_1 x14_3).f0))).setCell ⟨gb182, 1, none⟩ (.int .i64 ((rd_T40 l0_1 x14_3).f1)))).cell? _ = some _ from hx186_0)); clear hn186_0 hn186_1; replace p186 := eq_true p186; replace q186 := eq_true q186; have p187 : 0 ≤ (x14_3 : Int) := of_decide_eq_true (by first | (with_reducible assumption) | assumption); have q187 : x14_3 < (l1.length : Int) := of_decide_eq_true (by first | (with_reducible assumption) | assumption); obtain ⟨ad187, e187, hx187_0⟩ := Kd.at_int HR1.out x14_3 p187 q187; obtain rfl : ad183 = ad187 := (by injection e187); have hn187_0 : ad183.block ≠ gb182 := Nat.ne_of_lt (Nat.lt_of_lt_of_le (by have := World.block_lt_of_cell? _ _ hx187_0; first | rwa [add_block] at this | exact this) GW182.out); have hn187_1 : ad183.block ≠ gb182 := Nat.ne_of_lt (Nat.lt_of_lt_of_le (by have := World.block_lt_of_cell? _ _ hx187_0; first | rwa [add_block] at this | exact this) GW182.out); replace hx187_0 := (HB.out.cell (World.block_lt_of_cell? w _ hx187_0)).trans hx187_0; replace hx187_0 := (cell_far (p := ⟨gb182, 0, none⟩) (by first | (rw [add_block]; exact hn187_0) | (show (Addr.add _ _).block ≠ _; rw [add_block]; exact hn187_0) | exact hn187_0) (.int .i64 ((rd_T40 l0_1 x14_3).f0))).trans hx187_0; replace hx187_0 := (cell_far (p := ⟨gb182, 1, none⟩) (by first | (rw [add_block]; exact hn187_1) | (show (Addr.add _ _).block ≠ _; rw [add_block]; exact hn187_1) | exact hn187_1) (.int .i64 ((rd_T40 l0_1 x14_3).f1))).trans hx187_0; (try have hy187_0 := fun (n_ : Nat) => (show ((((w42.drewN n_).setCell ⟨gb182, 0, none⟩ (.int .i64 ((rd_T40 l0_1 x14_3).f0))).setCell ⟨gb182, 1, none⟩ (.int .i64 ((rd_T40 l0_1 x14_3).f1)))).cell? _ = some _ from hx187_0)); clear hn187_0 hn187_1; replace p187 := eq_true p187; replace q187 := eq_true q187; have p188 : 0 ≤ (((rd_T40 l0_1 x14_3).f1) : Int) := of_decide_eq_true (by first | (with_reducible assumption) | assumption); have q188 : ((rd_T40 l0_1 x14_3).f1) < (l2.length : Int) := of_decide_eq_true (by first | (with_reducible assumption) | assumption); obtain ⟨ad188, e188, hx188_0⟩ := Kd.at_int HR2.out ((rd_T40 l0_1 x14_3).f1) p188 q188; obtain rfl : ad186 = ad188 := (by injection e188); have hn188_0 : ad186.block ≠ gb182 := Nat.ne_of_lt (Nat.lt_of_lt_of_le (by have := World.block_lt_of_cell? _ _ hx188_0; first | rwa [add_block] at this | exact this) GW182.out); have hn188_1 : ad186.block ≠ gb182 := Nat.ne_of_lt (Nat.lt_of_lt_of_le (by have := World.block_lt_of_cell? _ _ hx188_0; first | rwa [add_block] at this | exact this) GW182.out); replace hx188_0 := (HB.out.cell (World.block_lt_of_cell? w _ hx188_0)).trans hx188_0; replace hx188_0 := (cell_far (p := ⟨gb182, 0, none⟩) (by first | (rw [add_block]; exact hn188_0) | (show (Addr.add _ _).block ≠ _; rw [add_block]; exact hn188_0) | exact hn188_0) (.int .i64 ((rd_T40 l0_1 x14_3).f0))).trans hx188_0; replace hx188_0 := (cell_far (p := ⟨gb182, 1, none⟩) (by first | (rw [add_block]; exact hn188_1) | (show (Addr.add _ _).block ≠ _; rw [add_block]; exact hn188_1) | exact hn188_1) (.int .i64 ((rd_T40 l0_1 x14_3).f1))).trans hx188_0; (try have hy188_0 := fun (n_ : Nat) => (show ((((w42.drewN n_).setCell ⟨gb182, 0, none⟩ (.int .i64 ((rd_T40 l0_1 x14_3).f0))).setCell ⟨gb182, 1, none⟩ (.int .i64 ((rd_T40 l0_1 x14_3).f1)))).cell? _ = some _ from hx188_0)); clear hn188_0 hn188_1; replace p188 := eq_true p188; replace q188 := eq_true q188)); try go_quiet (fail))
                        (try simp only [← hl11_3])
                        go_roundg k3
                        case measure => have := HK1.out; have := HK2.out; have := HK3.out; omega
                        case rel => exact ⟨(x11_3), (wrap64 (x14_3 + 1)), (by first | rfl | (simp; done) | (simp [*]; done)), H', ⟨by have := HK1.out; have := HK2.out; have := HK3.out; omega⟩, ⟨by (try simp only [hl11_2]); (try simp only [hl11_3]); (with_reducible repeat (first | apply Kd.R_alloc | apply Kd.R_drewN | apply Kd.R_drew)); exact Kd.R_mono (Kd.R_far (p := ⟨gb182, 1, none⟩) (Kd.R_far (p := ⟨gb182, 0, none⟩) (Kd.R_types HO_11.out BK182.out (by decide)) (fun _ hk => hk.2) (.int .i64 ((rd_T40 l0_1 x14_3).f0))) (fun _ hk => hk.2) (.int .i64 ((rd_T40 l0_1 x14_3).f1))) (fun _ hk => trivial)⟩, ⟨by (try simp only [hl11_2]); (try simp only [hl11_3]); (iterate 2 ((with_reducible repeat first | apply blk_drewN | apply blk_drew | apply blk_alloc); refine blk_far ?_ NB176_182.out _)); (with_reducible repeat first | apply blk_drewN | apply blk_drew | apply blk_alloc); exact BK176.out⟩, ⟨by repeat (first | (with_reducible first | exact HB.out | apply below_alloc | apply pw_below_drewN | apply below_drew1 | refine below_set ?_ GE176.out | refine below_set ?_ GE182.out) | exact HB.out)⟩⟩
                      ·rw [if_neg c30] at H
                       exact absurd H (by simp)
                     ·rw [if_neg c29] at H
                      exact absurd H (by simp)
                    ·rw [if_neg c28] at H
                     have c28b0 : decide ((rd x11_3 ((rd_T40 l0_1 x14_3).f1)) < 0) = false := decide_eq_false c28
                     clear c28
                     have H' := Aside0.mk H
                     clear H
                     have hcz45_0 : wr.cell? ⟨gb176, 0, none⟩ = some (.int .i64 a0_0) := (blk_cell BK176.out 0).trans rfl
                     have hcz45_1 : wr.cell? ⟨gb176, 1, none⟩ = some (.slice A0_1 l0_1.length c0_1) := (blk_cell BK176.out 1).trans rfl
                     have hfz45_0 := blk_frozen BK176.out 0
                     have hfz45_1 := blk_frozen BK176.out 1
                     have p181 : 0 ≤ (x14_3 : Int) := of_decide_eq_true (by first | (with_reducible assumption) | assumption)
                     have q181 : x14_3 < (l0_1.length : Int) := of_decide_eq_true (by first | (with_reducible assumption) | assumption)
                     obtain ⟨ad181, e181, hx181_0, hx181_1⟩ := at_T40 HR0_1.out x14_3 p181 q181
                     cases e181
                     replace hx181_0 := (HB.out.cell (World.block_lt_of_cell? w _ hx181_0)).trans hx181_0
                     replace hx181_1 := (HB.out.cell (World.block_lt_of_cell? w _ hx181_1)).trans hx181_1
                     replace p181 := eq_true p181
                     replace q181 := eq_true q181
                     iterate 3 (go_wp2_with (first | ((with_reducible refine gate_dst (N := 15) rfl ?_); refine box_event ?hg (N := 15) ?hd (cs := #[.int .i64 0, .int .i64 0]) (t := 40) ?hr ?_; (case hd => rfl); (case hg => rfl); (case hr => first | (go_simp; done) | (go_simp; rfl)); intro gb182 hg w46 hbox hb; have n0_ := Aside0.mk (Kd.R_below (by (with_reducible repeat (first | apply Kd.R_alloc | apply Kd.R_drewN | apply Kd.R_drew)); exact HO_11.out) hb); have n1_ := Aside0.mk (blk_below (by (with_reducible repeat first | apply blk_drewN | apply blk_drew | apply blk_alloc); exact BK176.out) hb); have n2_ := Aside0.mk (below_step (by repeat (first | (with_reducible first | exact HB.out | apply below_alloc | apply pw_below_drewN | apply below_drew1 | refine below_set ?_ GE176.out) | exact HB.out)) hb); have n3_ := Aside0.mk (hbox); have n4_ := Aside0.mk ((by rw [hg]; exact (below_size (by repeat (first | (with_reducible first | exact HB.out | apply below_alloc | apply pw_below_drewN | apply below_drew1 | refine below_set ?_ GE176.out) | exact HB.out))) : w.heap.size ≤ gb182)); have n5_ := n4_; have n6_ := Aside0.mk ((by rw [hg]; exact Nat.ne_of_lt (blk_lt (by (with_reducible repeat first | apply blk_drewN | apply blk_drew | apply blk_alloc); exact BK176.out)) : gb176 ≠ gb182)); have n7_ : Aside0 (gb182 ≠ gb176) := ⟨Ne.symm n6_.out⟩; clear HO_11 BK176 HB; have HO_11 := n0_; have BK176 := n1_; have HB := n2_; have BK182 := n3_; have GW182 := n4_; have GE182 := n5_; have NB176_182 := n6_; have NB182_176 := n7_; clear n0_ n1_ n2_ n3_ n4_ n5_ n6_ n7_ hb hbox hg; have hnb47 := NB182_176.out; have hnc47 := NB176_182.out; have hcz48_0 : w46.cell? ⟨gb182, 0, none⟩ = some (.int .i64 0) := (blk_cell BK182.out 0).trans rfl; have hcz48_1 : w46.cell? ⟨gb182, 1, none⟩ = some (.int .i64 0) := (blk_cell BK182.out 1).trans rfl; have hfz48_0 := blk_frozen BK182.out 0; have hfz48_1 := blk_frozen BK182.out 1; have p183 : 0 ≤ (x14_3 : Int) := of_decide_eq_true (by first | (with_reducible assumption) | assumption); have q183 : x14_3 < (l1.length : Int) := of_decide_eq_true (by first | (with_reducible assumption) | assumption); obtain ⟨ad183, e183, hx183_0⟩ := Kd.at_int HR1.out x14_3 p183 q183; cases e183; have hn183_0 : ad183.block ≠ gb182 := Nat.ne_of_lt (Nat.lt_of_lt_of_le (by have := World.block_lt_of_cell? _ _ hx183_0; first | rwa [add_block] at this | exact this) GW182.out); have hn183_1 : ad183.block ≠ gb182 := Nat.ne_of_lt (Nat.lt_of_lt_of_le (by have := World.block_lt_of_cell? _ _ hx183_0; first | rwa [add_block] at this | exact this) GW182.out); replace hx183_0 := (HB.out.cell (World.block_lt_of_cell? w _ hx183_0)).trans hx183_0; replace hx183_0 := (cell_far (p := ⟨gb182, 0, none⟩) (by first | (rw [add_block]; exact hn183_0) | (show (Addr.add _ _).block ≠ _; rw [add_block]; exact hn183_0) | exact hn183_0) (.int .i64 ((rd_T40 l0_1 x14_3).f0))).trans hx183_0; replace hx183_0 := (cell_far (p := ⟨gb182, 1, none⟩) (by first | (rw [add_block]; exact hn183_1) | (show (Addr.add _ _).block ≠ _; rw [add_block]; exact hn183_1) | exact hn183_1) (.int .i64 ((rd_T40 l0_1 x14_3).f1))).trans hx183_0; (try have hy183_0 := fun (n_ : Nat) => (show ((((w46.drewN n_).setCell ⟨gb182, 0, none⟩ (.int .i64 ((rd_T40 l0_1 x14_3).f0))).setCell ⟨gb182, 1, none⟩ (.int .i64 ((rd_T40 l0_1 x14_3).f1)))).cell? _ = some _ from hx183_0)); clear hn183_0 hn183_1; replace p183 := eq_true p183; replace q183 := eq_true q183; have p184 : 0 ≤ (((rd_T40 l0_1 x14_3).f0) : Int) := of_decide_eq_true (by first | (with_reducible assumption) | assumption); have q184 : ((rd_T40 l0_1 x14_3).f0) < (x11_3.length : Int) := of_decide_eq_true (by first | (with_reducible assumption) | assumption); obtain ⟨ad184, e184, hx184_0⟩ := Kd.at_int (Kd.R_reads' HO_11.out).2.2 ((rd_T40 l0_1 x14_3).f0) p184 q184; obtain rfl : (⟨go13, 0, none⟩ : Addr) = ad184 := (by injection e184); (first | simp only [add_plain] at hx184_0 | simp only [add_at] at hx184_0 | simp only [Addr.add, Nat.zero_add] at hx184_0 | skip); have hn184_0 : (⟨go13, 0, none⟩ : Addr).block ≠ gb182 := Kd.own_blk (Kd.R_ne HO_11.out BK182.out (by decide)); have hn184_1 : (⟨go13, 0, none⟩ : Addr).block ≠ gb182 := Kd.own_blk (Kd.R_ne HO_11.out BK182.out (by decide)); replace hx184_0 := (cell_far (p := ⟨gb182, 0, none⟩) (by first | (rw [add_block]; exact hn184_0) | (show (Addr.add _ _).block ≠ _; rw [add_block]; exact hn184_0) | exact hn184_0) (.int .i64 ((rd_T40 l0_1 x14_3).f0))).trans hx184_0; replace hx184_0 := (cell_far (p := ⟨gb182, 1, none⟩) (by first | (rw [add_block]; exact hn184_1) | (show (Addr.add _ _).block ≠ _; rw [add_block]; exact hn184_1) | exact hn184_1) (.int .i64 ((rd_T40 l0_1 x14_3).f1))).trans hx184_0; (try have hy184_0 := fun (n_ : Nat) => (show ((((w46.drewN n_).setCell ⟨gb182, 0, none⟩ (.int .i64 ((rd_T40 l0_1 x14_3).f0))).setCell ⟨gb182, 1, none⟩ (.int .i64 ((rd_T40 l0_1 x14_3).f1)))).cell? _ = some _ from hx184_0)); clear hn184_0 hn184_1; replace p184 := eq_true p184; replace q184 := eq_true q184; have p185 : 0 ≤ (((rd_T40 l0_1 x14_3).f1) : Int) := of_decide_eq_true (by first | (with_reducible assumption) | assumption); have q185 : ((rd_T40 l0_1 x14_3).f1) < (x11_3.length : Int) := of_decide_eq_true (by first | (with_reducible assumption) | assumption); obtain ⟨ad185, e185, hx185_0⟩ := Kd.at_int (Kd.R_reads' HO_11.out).2.2 ((rd_T40 l0_1 x14_3).f1) p185 q185; obtain rfl : (⟨go13, 0, none⟩ : Addr) = ad185 := (by injection e185); (first | simp only [add_plain] at hx185_0 | simp only [add_at] at hx185_0 | simp only [Addr.add, Nat.zero_add] at hx185_0 | skip); have hn185_0 : (⟨go13, 0, none⟩ : Addr).block ≠ gb182 := Kd.own_blk (Kd.R_ne HO_11.out BK182.out (by decide)); have hn185_1 : (⟨go13, 0, none⟩ : Addr).block ≠ gb182 := Kd.own_blk (Kd.R_ne HO_11.out BK182.out (by decide)); replace hx185_0 := (cell_far (p := ⟨gb182, 0, none⟩) (by first | (rw [add_block]; exact hn185_0) | (show (Addr.add _ _).block ≠ _; rw [add_block]; exact hn185_0) | exact hn185_0) (.int .i64 ((rd_T40 l0_1 x14_3).f0))).trans hx185_0; replace hx185_0 := (cell_far (p := ⟨gb182, 1, none⟩) (by first | (rw [add_block]; exact hn185_1) | (show (Addr.add _ _).block ≠ _; rw [add_block]; exact hn185_1) | exact hn185_1) (.int .i64 ((rd_T40 l0_1 x14_3).f1))).trans hx185_0; (try have hy185_0 := fun (n_ : Nat) => (show ((((w46.drewN n_).setCell ⟨gb182, 0, none⟩ (.int .i64 ((rd_T40 l0_1 x14_3).f0))).setCell ⟨gb182, 1, none⟩ (.int .i64 ((rd_T40 l0_1 x14_3).f1)))).cell? _ = some _ from hx185_0)); clear hn185_0 hn185_1; replace p185 := eq_true p185; replace q185 := eq_true q185)); try go_quiet (fail))
                     (try simp only [← hl11_3])
                     go_roundg k3
                     case measure => have := HK1.out; have := HK2.out; have := HK3.out; omega
                     case rel => exact ⟨(x11_3), (wrap64 (x14_3 + 1)), (by first | rfl | (simp; done) | (simp [*]; done)), H', ⟨by have := HK1.out; have := HK2.out; have := HK3.out; omega⟩, ⟨by (try simp only [hl11_2]); (try simp only [hl11_3]); (with_reducible repeat (first | apply Kd.R_alloc | apply Kd.R_drewN | apply Kd.R_drew)); exact Kd.R_mono (Kd.R_far (p := ⟨gb182, 1, none⟩) (Kd.R_far (p := ⟨gb182, 0, none⟩) (Kd.R_types HO_11.out BK182.out (by decide)) (fun _ hk => hk.2) (.int .i64 ((rd_T40 l0_1 x14_3).f0))) (fun _ hk => hk.2) (.int .i64 ((rd_T40 l0_1 x14_3).f1))) (fun _ hk => trivial)⟩, ⟨by (try simp only [hl11_2]); (try simp only [hl11_3]); (iterate 2 ((with_reducible repeat first | apply blk_drewN | apply blk_drew | apply blk_alloc); refine blk_far ?_ NB176_182.out _)); (with_reducible repeat first | apply blk_drewN | apply blk_drew | apply blk_alloc); exact BK176.out⟩, ⟨by repeat (first | (with_reducible first | exact HB.out | apply below_alloc | apply pw_below_drewN | apply below_drew1 | refine below_set ?_ GE176.out | refine below_set ?_ GE182.out) | exact HB.out)⟩⟩
                   ·rw [if_neg c27] at H
                    exact absurd H (by simp)
                  ·rw [if_neg c26] at H
                   exact absurd H (by simp)
                 ·rw [if_neg c25] at H
                  have c25b0 : ((rd x11_3 ((rd_T40 l0_1 x14_3).f0)) == x13_2) = false := beq_eq_false_iff_ne.mpr c25
                  have c25b1 : ((rd x11_3 ((rd_T40 l0_1 x14_3).f0)) != x13_2) = true := bne_iff_ne.mpr c25
                  have H' := Aside0.mk H
                  clear H
                  have hcz49_0 : wr.cell? ⟨gb176, 0, none⟩ = some (.int .i64 a0_0) := (blk_cell BK176.out 0).trans rfl
                  have hcz49_1 : wr.cell? ⟨gb176, 1, none⟩ = some (.slice A0_1 l0_1.length c0_1) := (blk_cell BK176.out 1).trans rfl
                  have hfz49_0 := blk_frozen BK176.out 0
                  have hfz49_1 := blk_frozen BK176.out 1
                  have p181 : 0 ≤ (x14_3 : Int) := of_decide_eq_true (by first | (with_reducible assumption) | assumption)
                  have q181 : x14_3 < (l0_1.length : Int) := of_decide_eq_true (by first | (with_reducible assumption) | assumption)
                  obtain ⟨ad181, e181, hx181_0, hx181_1⟩ := at_T40 HR0_1.out x14_3 p181 q181
                  cases e181
                  replace hx181_0 := (HB.out.cell (World.block_lt_of_cell? w _ hx181_0)).trans hx181_0
                  replace hx181_1 := (HB.out.cell (World.block_lt_of_cell? w _ hx181_1)).trans hx181_1
                  replace p181 := eq_true p181
                  replace q181 := eq_true q181
                  go_wp2_with (first | ((with_reducible refine gate_dst (N := 15) rfl ?_); refine box_event ?hg (N := 15) ?hd (cs := #[.int .i64 0, .int .i64 0]) (t := 40) ?hr ?_; (case hd => rfl); (case hg => rfl); (case hr => first | (go_simp; done) | (go_simp; rfl)); intro gb182 hg w50 hbox hb; have n0_ := Aside0.mk (Kd.R_below (by (with_reducible repeat (first | apply Kd.R_alloc | apply Kd.R_drewN | apply Kd.R_drew)); exact HO_11.out) hb); have n1_ := Aside0.mk (blk_below (by (with_reducible repeat first | apply blk_drewN | apply blk_drew | apply blk_alloc); exact BK176.out) hb); have n2_ := Aside0.mk (below_step (by repeat (first | (with_reducible first | exact HB.out | apply below_alloc | apply pw_below_drewN | apply below_drew1 | refine below_set ?_ GE176.out) | exact HB.out)) hb); have n3_ := Aside0.mk (hbox); have n4_ := Aside0.mk ((by rw [hg]; exact (below_size (by repeat (first | (with_reducible first | exact HB.out | apply below_alloc | apply pw_below_drewN | apply below_drew1 | refine below_set ?_ GE176.out) | exact HB.out))) : w.heap.size ≤ gb182)); have n5_ := n4_; have n6_ := Aside0.mk ((by rw [hg]; exact Nat.ne_of_lt (blk_lt (by (with_reducible repeat first | apply blk_drewN | apply blk_drew | apply blk_alloc); exact BK176.out)) : gb176 ≠ gb182)); have n7_ : Aside0 (gb182 ≠ gb176) := ⟨Ne.symm n6_.out⟩; clear HO_11 BK176 HB; have HO_11 := n0_; have BK176 := n1_; have HB := n2_; have BK182 := n3_; have GW182 := n4_; have GE182 := n5_; have NB176_182 := n6_; have NB182_176 := n7_; clear n0_ n1_ n2_ n3_ n4_ n5_ n6_ n7_ hb hbox hg; have hnb51 := NB182_176.out; have hnc51 := NB176_182.out; have hcz52_0 : w50.cell? ⟨gb182, 0, none⟩ = some (.int .i64 0) := (blk_cell BK182.out 0).trans rfl; have hcz52_1 : w50.cell? ⟨gb182, 1, none⟩ = some (.int .i64 0) := (blk_cell BK182.out 1).trans rfl; have hfz52_0 := blk_frozen BK182.out 0; have hfz52_1 := blk_frozen BK182.out 1; have p183 : 0 ≤ (x14_3 : Int) := of_decide_eq_true (by first | (with_reducible assumption) | assumption); have q183 : x14_3 < (l1.length : Int) := of_decide_eq_true (by first | (with_reducible assumption) | assumption); obtain ⟨ad183, e183, hx183_0⟩ := Kd.at_int HR1.out x14_3 p183 q183; cases e183; have hn183_0 : ad183.block ≠ gb182 := Nat.ne_of_lt (Nat.lt_of_lt_of_le (by have := World.block_lt_of_cell? _ _ hx183_0; first | rwa [add_block] at this | exact this) GW182.out); have hn183_1 : ad183.block ≠ gb182 := Nat.ne_of_lt (Nat.lt_of_lt_of_le (by have := World.block_lt_of_cell? _ _ hx183_0; first | rwa [add_block] at this | exact this) GW182.out); replace hx183_0 := (HB.out.cell (World.block_lt_of_cell? w _ hx183_0)).trans hx183_0; replace hx183_0 := (cell_far (p := ⟨gb182, 0, none⟩) (by first | (rw [add_block]; exact hn183_0) | (show (Addr.add _ _).block ≠ _; rw [add_block]; exact hn183_0) | exact hn183_0) (.int .i64 ((rd_T40 l0_1 x14_3).f0))).trans hx183_0; replace hx183_0 := (cell_far (p := ⟨gb182, 1, none⟩) (by first | (rw [add_block]; exact hn183_1) | (show (Addr.add _ _).block ≠ _; rw [add_block]; exact hn183_1) | exact hn183_1) (.int .i64 ((rd_T40 l0_1 x14_3).f1))).trans hx183_0; (try have hy183_0 := fun (n_ : Nat) => (show ((((w50.drewN n_).setCell ⟨gb182, 0, none⟩ (.int .i64 ((rd_T40 l0_1 x14_3).f0))).setCell ⟨gb182, 1, none⟩ (.int .i64 ((rd_T40 l0_1 x14_3).f1)))).cell? _ = some _ from hx183_0)); clear hn183_0 hn183_1; replace p183 := eq_true p183; replace q183 := eq_true q183; have p184 : 0 ≤ (((rd_T40 l0_1 x14_3).f0) : Int) := of_decide_eq_true (by first | (with_reducible assumption) | assumption); have q184 : ((rd_T40 l0_1 x14_3).f0) < (x11_3.length : Int) := of_decide_eq_true (by first | (with_reducible assumption) | assumption); obtain ⟨ad184, e184, hx184_0⟩ := Kd.at_int (Kd.R_reads' HO_11.out).2.2 ((rd_T40 l0_1 x14_3).f0) p184 q184; obtain rfl : (⟨go13, 0, none⟩ : Addr) = ad184 := (by injection e184); (first | simp only [add_plain] at hx184_0 | simp only [add_at] at hx184_0 | simp only [Addr.add, Nat.zero_add] at hx184_0 | skip); have hn184_0 : (⟨go13, 0, none⟩ : Addr).block ≠ gb182 := Kd.own_blk (Kd.R_ne HO_11.out BK182.out (by decide)); have hn184_1 : (⟨go13, 0, none⟩ : Addr).block ≠ gb182 := Kd.own_blk (Kd.R_ne HO_11.out BK182.out (by decide)); replace hx184_0 := (cell_far (p := ⟨gb182, 0, none⟩) (by first | (rw [add_block]; exact hn184_0) | (show (Addr.add _ _).block ≠ _; rw [add_block]; exact hn184_0) | exact hn184_0) (.int .i64 ((rd_T40 l0_1 x14_3).f0))).trans hx184_0; replace hx184_0 := (cell_far (p := ⟨gb182, 1, none⟩) (by first | (rw [add_block]; exact hn184_1) | (show (Addr.add _ _).block ≠ _; rw [add_block]; exact hn184_1) | exact hn184_1) (.int .i64 ((rd_T40 l0_1 x14_3).f1))).trans hx184_0; (try have hy184_0 := fun (n_ : Nat) => (show ((((w50.drewN n_).setCell ⟨gb182, 0, none⟩ (.int .i64 ((rd_T40 l0_1 x14_3).f0))).setCell ⟨gb182, 1, none⟩ (.int .i64 ((rd_T40 l0_1 x14_3).f1)))).cell? _ = some _ from hx184_0)); clear hn184_0 hn184_1; replace p184 := eq_true p184; replace q184 := eq_true q184))
                  repeat (go_quiet (first | ((with_reducible refine gate_dst (N := 15) rfl ?_); refine box_event ?hg (N := 15) ?hd (cs := #[.int .i64 0, .int .i64 0]) (t := 40) ?hr ?_; (case hd => rfl); (case hg => rfl); (case hr => first | (go_simp; done) | (go_simp; rfl)); intro gb182 hg w50 hbox hb; have n0_ := Aside0.mk (Kd.R_below (by (with_reducible repeat (first | apply Kd.R_alloc | apply Kd.R_drewN | apply Kd.R_drew)); exact HO_11.out) hb); have n1_ := Aside0.mk (blk_below (by (with_reducible repeat first | apply blk_drewN | apply blk_drew | apply blk_alloc); exact BK176.out) hb); have n2_ := Aside0.mk (below_step (by repeat (first | (with_reducible first | exact HB.out | apply below_alloc | apply pw_below_drewN | apply below_drew1 | refine below_set ?_ GE176.out) | exact HB.out)) hb); have n3_ := Aside0.mk (hbox); have n4_ := Aside0.mk ((by rw [hg]; exact (below_size (by repeat (first | (with_reducible first | exact HB.out | apply below_alloc | apply pw_below_drewN | apply below_drew1 | refine below_set ?_ GE176.out) | exact HB.out))) : w.heap.size ≤ gb182)); have n5_ := n4_; have n6_ := Aside0.mk ((by rw [hg]; exact Nat.ne_of_lt (blk_lt (by (with_reducible repeat first | apply blk_drewN | apply blk_drew | apply blk_alloc); exact BK176.out)) : gb176 ≠ gb182)); have n7_ : Aside0 (gb182 ≠ gb176) := ⟨Ne.symm n6_.out⟩; clear HO_11 BK176 HB; have HO_11 := n0_; have BK176 := n1_; have HB := n2_; have BK182 := n3_; have GW182 := n4_; have GE182 := n5_; have NB176_182 := n6_; have NB182_176 := n7_; clear n0_ n1_ n2_ n3_ n4_ n5_ n6_ n7_ hb hbox hg; have hnb51 := NB182_176.out; have hnc51 := NB176_182.out; have hcz52_0 : w50.cell? ⟨gb182, 0, none⟩ = some (.int .i64 0) := (blk_cell BK182.out 0).trans rfl; have hcz52_1 : w50.cell? ⟨gb182, 1, none⟩ = some (.int .i64 0) := (blk_cell BK182.out 1).trans rfl; have hfz52_0 := blk_frozen BK182.out 0; have hfz52_1 := blk_frozen BK182.out 1; have p183 : 0 ≤ (x14_3 : Int) := of_decide_eq_true (by first | (with_reducible assumption) | assumption); have q183 : x14_3 < (l1.length : Int) := of_decide_eq_true (by first | (with_reducible assumption) | assumption); obtain ⟨ad183, e183, hx183_0⟩ := Kd.at_int HR1.out x14_3 p183 q183; cases e183; have hn183_0 : ad183.block ≠ gb182 := Nat.ne_of_lt (Nat.lt_of_lt_of_le (by have := World.block_lt_of_cell? _ _ hx183_0; first | rwa [add_block] at this | exact this) GW182.out); have hn183_1 : ad183.block ≠ gb182 := Nat.ne_of_lt (Nat.lt_of_lt_of_le (by have := World.block_lt_of_cell? _ _ hx183_0; first | rwa [add_block] at this | exact this) GW182.out); replace hx183_0 := (HB.out.cell (World.block_lt_of_cell? w _ hx183_0)).trans hx183_0; replace hx183_0 := (cell_far (p := ⟨gb182, 0, none⟩) (by first | (rw [add_block]; exact hn183_0) | (show (Addr.add _ _).block ≠ _; rw [add_block]; exact hn183_0) | exact hn183_0) (.int .i64 ((rd_T40 l0_1 x14_3).f0))).trans hx183_0; replace hx183_0 := (cell_far (p := ⟨gb182, 1, none⟩) (by first | (rw [add_block]; exact hn183_1) | (show (Addr.add _ _).block ≠ _; rw [add_block]; exact hn183_1) | exact hn183_1) (.int .i64 ((rd_T40 l0_1 x14_3).f1))).trans hx183_0; (try have hy183_0 := fun (n_ : Nat) => (show ((((w50.drewN n_).setCell ⟨gb182, 0, none⟩ (.int .i64 ((rd_T40 l0_1 x14_3).f0))).setCell ⟨gb182, 1, none⟩ (.int .i64 ((rd_T40 l0_1 x14_3).f1)))).cell? _ = some _ from hx183_0)); clear hn183_0 hn183_1; replace p183 := eq_true p183; replace q183 := eq_true q183; have p184 : 0 ≤ (((rd_T40 l0_1 x14_3).f0) : Int) := of_decide_eq_true (by first | (with_reducible assumption) | assumption); have q184 : ((rd_T40 l0_1 x14_3).f0) < (x11_3.length : Int) := of_decide_eq_true (by first | (with_reducible assumption) | assumption); obtain ⟨ad184, e184, hx184_0⟩ := Kd.at_int (Kd.R_reads' HO_11.out).2.2 ((rd_T40 l0_1 x14_3).f0) p184 q184; obtain rfl : (⟨go13, 0, none⟩ : Addr) = ad184 := (by injection e184); (first | simp only [add_plain] at hx184_0 | simp only [add_at] at hx184_0 | simp only [Addr.add, Nat.zero_add] at hx184_0 | skip); have hn184_0 : (⟨go13, 0, none⟩ : Addr).block ≠ gb182 := Kd.own_blk (Kd.R_ne HO_11.out BK182.out (by decide)); have hn184_1 : (⟨go13, 0, none⟩ : Addr).block ≠ gb182 := Kd.own_blk (Kd.R_ne HO_11.out BK182.out (by decide)); replace hx184_0 := (cell_far (p := ⟨gb182, 0, none⟩) (by first | (rw [add_block]; exact hn184_0) | (show (Addr.add _ _).block ≠ _; rw [add_block]; exact hn184_0) | exact hn184_0) (.int .i64 ((rd_T40 l0_1 x14_3).f0))).trans hx184_0; replace hx184_0 := (cell_far (p := ⟨gb182, 1, none⟩) (by first | (rw [add_block]; exact hn184_1) | (show (Addr.add _ _).block ≠ _; rw [add_block]; exact hn184_1) | exact hn184_1) (.int .i64 ((rd_T40 l0_1 x14_3).f1))).trans hx184_0; (try have hy184_0 := fun (n_ : Nat) => (show ((((w50.drewN n_).setCell ⟨gb182, 0, none⟩ (.int .i64 ((rd_T40 l0_1 x14_3).f0))).setCell ⟨gb182, 1, none⟩ (.int .i64 ((rd_T40 l0_1 x14_3).f1)))).cell? _ = some _ from hx184_0)); clear hn184_0 hn184_1; replace p184 := eq_true p184; replace q184 := eq_true q184)); try go_wp2_with (first | ((with_reducible refine gate_dst (N := 15) rfl ?_); refine box_event ?hg (N := 15) ?hd (cs := #[.int .i64 0, .int .i64 0]) (t := 40) ?hr ?_; (case hd => rfl); (case hg => rfl); (case hr => first | (go_simp; done) | (go_simp; rfl)); intro gb182 hg w50 hbox hb; have n0_ := Aside0.mk (Kd.R_below (by (with_reducible repeat (first | apply Kd.R_alloc | apply Kd.R_drewN | apply Kd.R_drew)); exact HO_11.out) hb); have n1_ := Aside0.mk (blk_below (by (with_reducible repeat first | apply blk_drewN | apply blk_drew | apply blk_alloc); exact BK176.out) hb); have n2_ := Aside0.mk (below_step (by repeat (first | (with_reducible first | exact HB.out | apply below_alloc | apply pw_below_drewN | apply below_drew1 | refine below_set ?_ GE176.out) | exact HB.out)) hb); have n3_ := Aside0.mk (hbox); have n4_ := Aside0.mk ((by rw [hg]; exact (below_size (by repeat (first | (with_reducible first | exact HB.out | apply below_alloc | apply pw_below_drewN | apply below_drew1 | refine below_set ?_ GE176.out) | exact HB.out))) : w.heap.size ≤ gb182)); have n5_ := n4_; have n6_ := Aside0.mk ((by rw [hg]; exact Nat.ne_of_lt (blk_lt (by (with_reducible repeat first | apply blk_drewN | apply blk_drew | apply blk_alloc); exact BK176.out)) : gb176 ≠ gb182)); have n7_ : Aside0 (gb182 ≠ gb176) := ⟨Ne.symm n6_.out⟩; clear HO_11 BK176 HB; have HO_11 := n0_; have BK176 := n1_; have HB := n2_; have BK182 := n3_; have GW182 := n4_; have GE182 := n5_; have NB176_182 := n6_; have NB182_176 := n7_; clear n0_ n1_ n2_ n3_ n4_ n5_ n6_ n7_ hb hbox hg; have hnb51 := NB182_176.out; have hnc51 := NB176_182.out; have hcz52_0 : w50.cell? ⟨gb182, 0, none⟩ = some (.int .i64 0) := (blk_cell BK182.out 0).trans rfl; have hcz52_1 : w50.cell? ⟨gb182, 1, none⟩ = some (.int .i64 0) := (blk_cell BK182.out 1).trans rfl; have hfz52_0 := blk_frozen BK182.out 0; have hfz52_1 := blk_frozen BK182.out 1; have p183 : 0 ≤ (x14_3 : Int) := of_decide_eq_true (by first | (with_reducible assumption) | assumption); have q183 : x14_3 < (l1.length : Int) := of_decide_eq_true (by first | (with_reducible assumption) | assumption); obtain ⟨ad183, e183, hx183_0⟩ := Kd.at_int HR1.out x14_3 p183 q183; cases e183; have hn183_0 : ad183.block ≠ gb182 := Nat.ne_of_lt (Nat.lt_of_lt_of_le (by have := World.block_lt_of_cell? _ _ hx183_0; first | rwa [add_block] at this | exact this) GW182.out); have hn183_1 : ad183.block ≠ gb182 := Nat.ne_of_lt (Nat.lt_of_lt_of_le (by have := World.block_lt_of_cell? _ _ hx183_0; first | rwa [add_block] at this | exact this) GW182.out); replace hx183_0 := (HB.out.cell (World.block_lt_of_cell? w _ hx183_0)).trans hx183_0; replace hx183_0 := (cell_far (p := ⟨gb182, 0, none⟩) (by first | (rw [add_block]; exact hn183_0) | (show (Addr.add _ _).block ≠ _; rw [add_block]; exact hn183_0) | exact hn183_0) (.int .i64 ((rd_T40 l0_1 x14_3).f0))).trans hx183_0; replace hx183_0 := (cell_far (p := ⟨gb182, 1, none⟩) (by first | (rw [add_block]; exact hn183_1) | (show (Addr.add _ _).block ≠ _; rw [add_block]; exact hn183_1) | exact hn183_1) (.int .i64 ((rd_T40 l0_1 x14_3).f1))).trans hx183_0; (try have hy183_0 := fun (n_ : Nat) => (show ((((w50.drewN n_).setCell ⟨gb182, 0, none⟩ (.int .i64 ((rd_T40 l0_1 x14_3).f0))).setCell ⟨gb182, 1, none⟩ (.int .i64 ((rd_T40 l0_1 x14_3).f1)))).cell? _ = some _ from hx183_0)); clear hn183_0 hn183_1; replace p183 := eq_true p183; replace q183 := eq_true q183; have p184 : 0 ≤ (((rd_T40 l0_1 x14_3).f0) : Int) := of_decide_eq_true (by first | (with_reducible assumption) | assumption); have q184 : ((rd_T40 l0_1 x14_3).f0) < (x11_3.length : Int) := of_decide_eq_true (by first | (with_reducible assumption) | assumption); obtain ⟨ad184, e184, hx184_0⟩ := Kd.at_int (Kd.R_reads' HO_11.out).2.2 ((rd_T40 l0_1 x14_3).f0) p184 q184; obtain rfl : (⟨go13, 0, none⟩ : Addr) = ad184 := (by injection e184); (first | simp only [add_plain] at hx184_0 | simp only [add_at] at hx184_0 | simp only [Addr.add, Nat.zero_add] at hx184_0 | skip); have hn184_0 : (⟨go13, 0, none⟩ : Addr).block ≠ gb182 := Kd.own_blk (Kd.R_ne HO_11.out BK182.out (by decide)); have hn184_1 : (⟨go13, 0, none⟩ : Addr).block ≠ gb182 := Kd.own_blk (Kd.R_ne HO_11.out BK182.out (by decide)); replace hx184_0 := (cell_far (p := ⟨gb182, 0, none⟩) (by first | (rw [add_block]; exact hn184_0) | (show (Addr.add _ _).block ≠ _; rw [add_block]; exact hn184_0) | exact hn184_0) (.int .i64 ((rd_T40 l0_1 x14_3).f0))).trans hx184_0; replace hx184_0 := (cell_far (p := ⟨gb182, 1, none⟩) (by first | (rw [add_block]; exact hn184_1) | (show (Addr.add _ _).block ≠ _; rw [add_block]; exact hn184_1) | exact hn184_1) (.int .i64 ((rd_T40 l0_1 x14_3).f1))).trans hx184_0; (try have hy184_0 := fun (n_ : Nat) => (show ((((w50.drewN n_).setCell ⟨gb182, 0, none⟩ (.int .i64 ((rd_T40 l0_1 x14_3).f0))).setCell ⟨gb182, 1, none⟩ (.int .i64 ((rd_T40 l0_1 x14_3).f1)))).cell? _ = some _ from hx184_0)); clear hn184_0 hn184_1; replace p184 := eq_true p184; replace q184 := eq_true q184)))
                  (try simp only [← hl11_3])
                  go_roundg k3
                  case measure => have := HK1.out; have := HK2.out; have := HK3.out; omega
                  case rel => exact ⟨(x11_3), (wrap64 (x14_3 + 1)), (by first | rfl | (simp; done) | (simp [*]; done)), H', ⟨by have := HK1.out; have := HK2.out; have := HK3.out; omega⟩, ⟨by (try simp only [hl11_2]); (try simp only [hl11_3]); (with_reducible repeat (first | apply Kd.R_alloc | apply Kd.R_drewN | apply Kd.R_drew)); exact Kd.R_mono (Kd.R_far (p := ⟨gb182, 1, none⟩) (Kd.R_far (p := ⟨gb182, 0, none⟩) (Kd.R_types HO_11.out BK182.out (by decide)) (fun _ hk => hk.2) (.int .i64 ((rd_T40 l0_1 x14_3).f0))) (fun _ hk => hk.2) (.int .i64 ((rd_T40 l0_1 x14_3).f1))) (fun _ hk => trivial)⟩, ⟨by (try simp only [hl11_2]); (try simp only [hl11_3]); (iterate 2 ((with_reducible repeat first | apply blk_drewN | apply blk_drew | apply blk_alloc); refine blk_far ?_ NB176_182.out _)); (with_reducible repeat first | apply blk_drewN | apply blk_drew | apply blk_alloc); exact BK176.out⟩, ⟨by repeat (first | (with_reducible first | exact HB.out | apply below_alloc | apply pw_below_drewN | apply below_drew1 | refine below_set ?_ GE176.out | refine below_set ?_ GE182.out) | exact HB.out)⟩⟩
                ·rw [if_neg c24] at H
                 exact absurd H (by simp)
               ·rw [if_neg c23] at H
                exact absurd H (by simp)
              ·rw [if_neg c22] at H
               have c22b0 : decide (0 ≤ (rd l1 x14_3)) = false := decide_eq_false c22
               clear c22
               have H' := Aside0.mk H
               clear H
               have hcz53_0 : wr.cell? ⟨gb176, 0, none⟩ = some (.int .i64 a0_0) := (blk_cell BK176.out 0).trans rfl
               have hcz53_1 : wr.cell? ⟨gb176, 1, none⟩ = some (.slice A0_1 l0_1.length c0_1) := (blk_cell BK176.out 1).trans rfl
               have hfz53_0 := blk_frozen BK176.out 0
               have hfz53_1 := blk_frozen BK176.out 1
               have p181 : 0 ≤ (x14_3 : Int) := of_decide_eq_true (by first | (with_reducible assumption) | assumption)
               have q181 : x14_3 < (l0_1.length : Int) := of_decide_eq_true (by first | (with_reducible assumption) | assumption)
               obtain ⟨ad181, e181, hx181_0, hx181_1⟩ := at_T40 HR0_1.out x14_3 p181 q181
               cases e181
               replace hx181_0 := (HB.out.cell (World.block_lt_of_cell? w _ hx181_0)).trans hx181_0
               replace hx181_1 := (HB.out.cell (World.block_lt_of_cell? w _ hx181_1)).trans hx181_1
               replace p181 := eq_true p181
               replace q181 := eq_true q181
               go_wp2_with (first | ((with_reducible refine gate_dst (N := 15) rfl ?_); refine box_event ?hg (N := 15) ?hd (cs := #[.int .i64 0, .int .i64 0]) (t := 40) ?hr ?_; (case hd => rfl); (case hg => rfl); (case hr => first | (go_simp; done) | (go_simp; rfl)); intro gb182 hg w54 hbox hb; have n0_ := Aside0.mk (Kd.R_below (by (with_reducible repeat (first | apply Kd.R_alloc | apply Kd.R_drewN | apply Kd.R_drew)); exact HO_11.out) hb); have n1_ := Aside0.mk (blk_below (by (with_reducible repeat first | apply blk_drewN | apply blk_drew | apply blk_alloc); exact BK176.out) hb); have n2_ := Aside0.mk (below_step (by repeat (first | (with_reducible first | exact HB.out | apply below_alloc | apply pw_below_drewN | apply below_drew1 | refine below_set ?_ GE176.out) | exact HB.out)) hb); have n3_ := Aside0.mk (hbox); have n4_ := Aside0.mk ((by rw [hg]; exact (below_size (by repeat (first | (with_reducible first | exact HB.out | apply below_alloc | apply pw_below_drewN | apply below_drew1 | refine below_set ?_ GE176.out) | exact HB.out))) : w.heap.size ≤ gb182)); have n5_ := n4_; have n6_ := Aside0.mk ((by rw [hg]; exact Nat.ne_of_lt (blk_lt (by (with_reducible repeat first | apply blk_drewN | apply blk_drew | apply blk_alloc); exact BK176.out)) : gb176 ≠ gb182)); have n7_ : Aside0 (gb182 ≠ gb176) := ⟨Ne.symm n6_.out⟩; clear HO_11 BK176 HB; have HO_11 := n0_; have BK176 := n1_; have HB := n2_; have BK182 := n3_; have GW182 := n4_; have GE182 := n5_; have NB176_182 := n6_; have NB182_176 := n7_; clear n0_ n1_ n2_ n3_ n4_ n5_ n6_ n7_ hb hbox hg; have hnb55 := NB182_176.out; have hnc55 := NB176_182.out; have hcz56_0 : w54.cell? ⟨gb182, 0, none⟩ = some (.int .i64 0) := (blk_cell BK182.out 0).trans rfl; have hcz56_1 : w54.cell? ⟨gb182, 1, none⟩ = some (.int .i64 0) := (blk_cell BK182.out 1).trans rfl; have hfz56_0 := blk_frozen BK182.out 0; have hfz56_1 := blk_frozen BK182.out 1; have p183 : 0 ≤ (x14_3 : Int) := of_decide_eq_true (by first | (with_reducible assumption) | assumption); have q183 : x14_3 < (l1.length : Int) := of_decide_eq_true (by first | (with_reducible assumption) | assumption); obtain ⟨ad183, e183, hx183_0⟩ := Kd.at_int HR1.out x14_3 p183 q183; cases e183; have hn183_0 : ad183.block ≠ gb182 := Nat.ne_of_lt (Nat.lt_of_lt_of_le (by have := World.block_lt_of_cell? _ _ hx183_0; first | rwa [add_block] at this | exact this) GW182.out); have hn183_1 : ad183.block ≠ gb182 := Nat.ne_of_lt (Nat.lt_of_lt_of_le (by have := World.block_lt_of_cell? _ _ hx183_0; first | rwa [add_block] at this | exact this) GW182.out); replace hx183_0 := (HB.out.cell (World.block_lt_of_cell? w _ hx183_0)).trans hx183_0; replace hx183_0 := (cell_far (p := ⟨gb182, 0, none⟩) (by first | (rw [add_block]; exact hn183_0) | (show (Addr.add _ _).block ≠ _; rw [add_block]; exact hn183_0) | exact hn183_0) (.int .i64 ((rd_T40 l0_1 x14_3).f0))).trans hx183_0; replace hx183_0 := (cell_far (p := ⟨gb182, 1, none⟩) (by first | (rw [add_block]; exact hn183_1) | (show (Addr.add _ _).block ≠ _; rw [add_block]; exact hn183_1) | exact hn183_1) (.int .i64 ((rd_T40 l0_1 x14_3).f1))).trans hx183_0; (try have hy183_0 := fun (n_ : Nat) => (show ((((w54.drewN n_).setCell ⟨gb182, 0, none⟩ (.int .i64 ((rd_T40 l0_1 x14_3).f0))).setCell ⟨gb182, 1, none⟩ (.int .i64 ((rd_T40 l0_1 x14_3).f1)))).cell? _ = some _ from hx183_0)); clear hn183_0 hn183_1; replace p183 := eq_true p183; replace q183 := eq_true q183))
               repeat (go_quiet (first | ((with_reducible refine gate_dst (N := 15) rfl ?_); refine box_event ?hg (N := 15) ?hd (cs := #[.int .i64 0, .int .i64 0]) (t := 40) ?hr ?_; (case hd => rfl); (case hg => rfl); (case hr => first | (go_simp; done) | (go_simp; rfl)); intro gb182 hg w54 hbox hb; have n0_ := Aside0.mk (Kd.R_below (by (with_reducible repeat (first | apply Kd.R_alloc | apply Kd.R_drewN | apply Kd.R_drew)); exact HO_11.out) hb); have n1_ := Aside0.mk (blk_below (by (with_reducible repeat first | apply blk_drewN | apply blk_drew | apply blk_alloc); exact BK176.out) hb); have n2_ := Aside0.mk (below_step (by repeat (first | (with_reducible first | exact HB.out | apply below_alloc | apply pw_below_drewN | apply below_drew1 | refine below_set ?_ GE176.out) | exact HB.out)) hb); have n3_ := Aside0.mk (hbox); have n4_ := Aside0.mk ((by rw [hg]; exact (below_size (by repeat (first | (with_reducible first | exact HB.out | apply below_alloc | apply pw_below_drewN | apply below_drew1 | refine below_set ?_ GE176.out) | exact HB.out))) : w.heap.size ≤ gb182)); have n5_ := n4_; have n6_ := Aside0.mk ((by rw [hg]; exact Nat.ne_of_lt (blk_lt (by (with_reducible repeat first | apply blk_drewN | apply blk_drew | apply blk_alloc); exact BK176.out)) : gb176 ≠ gb182)); have n7_ : Aside0 (gb182 ≠ gb176) := ⟨Ne.symm n6_.out⟩; clear HO_11 BK176 HB; have HO_11 := n0_; have BK176 := n1_; have HB := n2_; have BK182 := n3_; have GW182 := n4_; have GE182 := n5_; have NB176_182 := n6_; have NB182_176 := n7_; clear n0_ n1_ n2_ n3_ n4_ n5_ n6_ n7_ hb hbox hg; have hnb55 := NB182_176.out; have hnc55 := NB176_182.out; have hcz56_0 : w54.cell? ⟨gb182, 0, none⟩ = some (.int .i64 0) := (blk_cell BK182.out 0).trans rfl; have hcz56_1 : w54.cell? ⟨gb182, 1, none⟩ = some (.int .i64 0) := (blk_cell BK182.out 1).trans rfl; have hfz56_0 := blk_frozen BK182.out 0; have hfz56_1 := blk_frozen BK182.out 1; have p183 : 0 ≤ (x14_3 : Int) := of_decide_eq_true (by first | (with_reducible assumption) | assumption); have q183 : x14_3 < (l1.length : Int) := of_decide_eq_true (by first | (with_reducible assumption) | assumption); obtain ⟨ad183, e183, hx183_0⟩ := Kd.at_int HR1.out x14_3 p183 q183; cases e183; have hn183_0 : ad183.block ≠ gb182 := Nat.ne_of_lt (Nat.lt_of_lt_of_le (by have := World.block_lt_of_cell? _ _ hx183_0; first | rwa [add_block] at this | exact this) GW182.out); have hn183_1 : ad183.block ≠ gb182 := Nat.ne_of_lt (Nat.lt_of_lt_of_le (by have := World.block_lt_of_cell? _ _ hx183_0; first | rwa [add_block] at this | exact this) GW182.out); replace hx183_0 := (HB.out.cell (World.block_lt_of_cell? w _ hx183_0)).trans hx183_0; replace hx183_0 := (cell_far (p := ⟨gb182, 0, none⟩) (by first | (rw [add_block]; exact hn183_0) | (show (Addr.add _ _).block ≠ _; rw [add_block]; exact hn183_0) | exact hn183_0) (.int .i64 ((rd_T40 l0_1 x14_3).f0))).trans hx183_0; replace hx183_0 := (cell_far (p := ⟨gb182, 1, none⟩) (by first | (rw [add_block]; exact hn183_1) | (show (Addr.add _ _).block ≠ _; rw [add_block]; exact hn183_1) | exact hn183_1) (.int .i64 ((rd_T40 l0_1 x14_3).f1))).trans hx183_0; (try have hy183_0 := fun (n_ : Nat) => (show ((((w54.drewN n_).setCell ⟨gb182, 0, none⟩ (.int .i64 ((rd_T40 l0_1 x14_3).f0))).setCell ⟨gb182, 1, none⟩ (.int .i64 ((rd_T40 l0_1 x14_3).f1)))).cell? _ = some _ from hx183_0)); clear hn183_0 hn183_1; replace p183 := eq_true p183; replace q183 := eq_true q183)); try go_wp2_with (first | ((with_reducible refine gate_dst (N := 15) rfl ?_); refine box_event ?hg (N := 15) ?hd (cs := #[.int .i64 0, .int .i64 0]) (t := 40) ?hr ?_; (case hd => rfl); (case hg => rfl); (case hr => first | (go_simp; done) | (go_simp; rfl)); intro gb182 hg w54 hbox hb; have n0_ := Aside0.mk (Kd.R_below (by (with_reducible repeat (first | apply Kd.R_alloc | apply Kd.R_drewN | apply Kd.R_drew)); exact HO_11.out) hb); have n1_ := Aside0.mk (blk_below (by (with_reducible repeat first | apply blk_drewN | apply blk_drew | apply blk_alloc); exact BK176.out) hb); have n2_ := Aside0.mk (below_step (by repeat (first | (with_reducible first | exact HB.out | apply below_alloc | apply pw_below_drewN | apply below_drew1 | refine below_set ?_ GE176.out) | exact HB.out)) hb); have n3_ := Aside0.mk (hbox); have n4_ := Aside0.mk ((by rw [hg]; exact (below_size (by repeat (first | (with_reducible first | exact HB.out | apply below_alloc | apply pw_below_drewN | apply below_drew1 | refine below_set ?_ GE176.out) | exact HB.out))) : w.heap.size ≤ gb182)); have n5_ := n4_; have n6_ := Aside0.mk ((by rw [hg]; exact Nat.ne_of_lt (blk_lt (by (with_reducible repeat first | apply blk_drewN | apply blk_drew | apply blk_alloc); exact BK176.out)) : gb176 ≠ gb182)); have n7_ : Aside0 (gb182 ≠ gb176) := ⟨Ne.symm n6_.out⟩; clear HO_11 BK176 HB; have HO_11 := n0_; have BK176 := n1_; have HB := n2_; have BK182 := n3_; have GW182 := n4_; have GE182 := n5_; have NB176_182 := n6_; have NB182_176 := n7_; clear n0_ n1_ n2_ n3_ n4_ n5_ n6_ n7_ hb hbox hg; have hnb55 := NB182_176.out; have hnc55 := NB176_182.out; have hcz56_0 : w54.cell? ⟨gb182, 0, none⟩ = some (.int .i64 0) := (blk_cell BK182.out 0).trans rfl; have hcz56_1 : w54.cell? ⟨gb182, 1, none⟩ = some (.int .i64 0) := (blk_cell BK182.out 1).trans rfl; have hfz56_0 := blk_frozen BK182.out 0; have hfz56_1 := blk_frozen BK182.out 1; have p183 : 0 ≤ (x14_3 : Int) := of_decide_eq_true (by first | (with_reducible assumption) | assumption); have q183 : x14_3 < (l1.length : Int) := of_decide_eq_true (by first | (with_reducible assumption) | assumption); obtain ⟨ad183, e183, hx183_0⟩ := Kd.at_int HR1.out x14_3 p183 q183; cases e183; have hn183_0 : ad183.block ≠ gb182 := Nat.ne_of_lt (Nat.lt_of_lt_of_le (by have := World.block_lt_of_cell? _ _ hx183_0; first | rwa [add_block] at this | exact this) GW182.out); have hn183_1 : ad183.block ≠ gb182 := Nat.ne_of_lt (Nat.lt_of_lt_of_le (by have := World.block_lt_of_cell? _ _ hx183_0; first | rwa [add_block] at this | exact this) GW182.out); replace hx183_0 := (HB.out.cell (World.block_lt_of_cell? w _ hx183_0)).trans hx183_0; replace hx183_0 := (cell_far (p := ⟨gb182, 0, none⟩) (by first | (rw [add_block]; exact hn183_0) | (show (Addr.add _ _).block ≠ _; rw [add_block]; exact hn183_0) | exact hn183_0) (.int .i64 ((rd_T40 l0_1 x14_3).f0))).trans hx183_0; replace hx183_0 := (cell_far (p := ⟨gb182, 1, none⟩) (by first | (rw [add_block]; exact hn183_1) | (show (Addr.add _ _).block ≠ _; rw [add_block]; exact hn183_1) | exact hn183_1) (.int .i64 ((rd_T40 l0_1 x14_3).f1))).trans hx183_0; (try have hy183_0 := fun (n_ : Nat) => (show ((((w54.drewN n_).setCell ⟨gb182, 0, none⟩ (.int .i64 ((rd_T40 l0_1 x14_3).f0))).setCell ⟨gb182, 1, none⟩ (.int .i64 ((rd_T40 l0_1 x14_3).f1)))).cell? _ = some _ from hx183_0)); clear hn183_0 hn183_1; replace p183 := eq_true p183; replace q183 := eq_true q183)))
               (try simp only [← hl11_3])
               go_roundg k3
               case measure => have := HK1.out; have := HK2.out; have := HK3.out; omega
               case rel => exact ⟨(x11_3), (wrap64 (x14_3 + 1)), (by first | rfl | (simp; done) | (simp [*]; done)), H', ⟨by have := HK1.out; have := HK2.out; have := HK3.out; omega⟩, ⟨by (try simp only [hl11_2]); (try simp only [hl11_3]); (with_reducible repeat (first | apply Kd.R_alloc | apply Kd.R_drewN | apply Kd.R_drew)); exact Kd.R_mono (Kd.R_far (p := ⟨gb182, 1, none⟩) (Kd.R_far (p := ⟨gb182, 0, none⟩) (Kd.R_types HO_11.out BK182.out (by decide)) (fun _ hk => hk.2) (.int .i64 ((rd_T40 l0_1 x14_3).f0))) (fun _ hk => hk.2) (.int .i64 ((rd_T40 l0_1 x14_3).f1))) (fun _ hk => trivial)⟩, ⟨by (try simp only [hl11_2]); (try simp only [hl11_3]); (iterate 2 ((with_reducible repeat first | apply blk_drewN | apply blk_drew | apply blk_alloc); refine blk_far ?_ NB176_182.out _)); (with_reducible repeat first | apply blk_drewN | apply blk_drew | apply blk_alloc); exact BK176.out⟩, ⟨by repeat (first | (with_reducible first | exact HB.out | apply below_alloc | apply pw_below_drewN | apply below_drew1 | refine below_set ?_ GE176.out | refine below_set ?_ GE182.out) | exact HB.out)⟩⟩
             ·rw [if_neg c21] at H
              exact absurd H (by simp)
            ·rw [if_neg c20] at H
             exact absurd H (by simp)
           ·rw [if_neg c19] at H
            have c19b0 : decide (x14_3 < (l0_1.length : Int)) = false := decide_eq_false c19
            clear c19
            have H' := Aside0.mk H
            clear H
            have hcz57_0 : wr.cell? ⟨gb176, 0, none⟩ = some (.int .i64 a0_0) := (blk_cell BK176.out 0).trans rfl
            have hcz57_1 : wr.cell? ⟨gb176, 1, none⟩ = some (.slice A0_1 l0_1.length c0_1) := (blk_cell BK176.out 1).trans rfl
            have hfz57_0 := blk_frozen BK176.out 0
            have hfz57_1 := blk_frozen BK176.out 1
            go_wp2
            repeat (go_quiet (fail); try go_wp2)
            (try simp only [← hl11_2, ← hl11_3])
            go_roundg k3
            case measure => have := HK1.out; have := HK2.out; have := HK3.out; omega
            case rel => exact ⟨(x11_3), (wrap64 (x13_2 + 1)), (by first | rfl | (simp; done) | (simp [*]; done)), H', ⟨by have := HK1.out; have := HK2.out; have := HK3.out; omega⟩, ⟨by (try simp only [hl11_2]); (try simp only [hl11_3]); (with_reducible repeat (first | apply Kd.R_alloc | apply Kd.R_drewN | apply Kd.R_drew)); exact HO_11.out⟩, ⟨by (try simp only [hl11_2]); (try simp only [hl11_3]); (with_reducible repeat first | apply blk_drewN | apply blk_drew | apply blk_alloc); exact BK176.out⟩, ⟨by repeat (first | (with_reducible first | exact HB.out | apply below_alloc | apply pw_below_drewN | apply below_drew1 | refine below_set ?_ GE176.out) | exact HB.out)⟩⟩
        ·rw [if_neg c17] at H
         have c17b0 : decide (x13_2 < a0_0) = false := decide_eq_false c17
         clear c17
         have H' := Aside0.mk H
         clear H
         have hcz58_0 : wr.cell? ⟨gb176, 0, none⟩ = some (.int .i64 a0_0) := (blk_cell BK176.out 0).trans rfl
         have hcz58_1 : wr.cell? ⟨gb176, 1, none⟩ = some (.slice A0_1 l0_1.length c0_1) := (blk_cell BK176.out 1).trans rfl
         have hfz58_0 := blk_frozen BK176.out 0
         have hfz58_1 := blk_frozen BK176.out 1
         go_wp2
         repeat (go_quiet (fail); try go_wp2)
         go_loopg [4, 16] k2 (fun kq v4 v16 w' => ∃ (x4_3 : Int) (x16_3 : List Int), v4 = .int .i64 x4_3 ∧ Aside0 (mapmakerref38_way.l3 kq l1 l2 a3 x4_3 x11_2 x16_3 a0_0 l0_1 = some r) ∧ Aside0 (kq ≤ k2) ∧ Aside0 (Kd.R (Kd.int .i64) 3 w' w.heap.size (fun k_ => some k_ ≠ (v16 : Value).ownBlock) (.slice (some ⟨go13, 0, none⟩) x11_2.length co13) x11_2) ∧ Aside0 (Kd.R (Kd.int .i64) 3 w' w.heap.size (fun k_ => some k_ ≠ ((.slice (some ⟨go13, 0, none⟩) x11_2.length co13) : Value).ownBlock) v16 x16_3) ∧ Aside0 (w'.heap[gb176]? = some (.cells #[.int .i64 a0_0, (.slice A0_1 l0_1.length c0_1)] 24 (0, 0))) ∧ Aside0 (Below w.heap.size w w'))
         case atStart => exact ⟨(a4), (([] : List Int)), (by first | rfl | (simp; done) | (simp [*]; done)), H', ⟨Nat.le_refl _⟩, ⟨by (try simp only [hl11_2]); (with_reducible repeat (first | apply Kd.R_alloc | apply Kd.R_drewN | apply Kd.R_drew)); exact Kd.R_mono HO_11.out (fun _ hk => (by simp [Value.ownBlock]))⟩, ⟨by (try simp only [hl11_2]); first | exact Kd.R_nil _ _ _ _ _ | exact Kd.N_nil _ _ _ _ _ | exact Kd.V_nil _ _ _ _ _ | exact Kd.Q_nil _ _ _ _ _ | exact Kd.S_nil _ _ _ _ _⟩, ⟨by (try simp only [hl11_2]); (with_reducible repeat first | apply blk_drewN | apply blk_drew | apply blk_alloc); exact BK176.out⟩, ⟨by repeat (first | (with_reducible first | exact HB.out | apply below_alloc | apply pw_below_drewN | apply below_drew1 | refine below_set ?_ GE176.out) | exact HB.out)⟩⟩
         case round =>
          clear H'
          try clear c1
          try clear p1
          try clear q1
          try clear hx1
          try clear c2
          try clear p2
          try clear c3
          try clear p3
          try clear q3
          try clear hx3
          try clear c4
          try clear c5
          try clear p6
          try clear c7
          try clear c7b0
          try clear c8
          try clear c11
          try clear c11b0
          try clear c12
          try clear c12b0
          try clear p13
          try clear q13
          try clear hx13
          try clear hf13
          try clear c17
          try clear c17b0
          try clear p18
          try clear q18
          try clear hx18
          try clear c19
          try clear c19b0
          try clear c20
          try clear c20b0
          try clear c21
          try clear c21b0
          try clear c22
          try clear c22b0
          try clear c23
          try clear c23b0
          try clear c24
          try clear c24b0
          try clear c25
          try clear c25b0
          try clear c25b1
          try clear c26
          try clear c26b0
          try clear c27
          try clear c27b0
          try clear c28
          try clear c28b0
          try clear c29
          try clear c29b0
          try clear c30
          try clear c30b0
          try clear c31
          try clear c31b0
          try clear c31b1
          try clear p32
          try clear q32
          try clear hx32
          try clear hf32
          try clear c35
          try clear c43
          try clear c47
          try clear c51
          try clear c55
          try clear hcz14_0
          try clear hcz14_1
          try clear hcz18_0
          try clear hcz18_1
          try clear hcz33_0
          try clear hcz33_1
          try clear hcz36_0
          try clear hcz36_1
          try clear hcz38_0
          try clear hcz38_1
          try clear hcz41_0
          try clear hcz41_1
          try clear hcz44_0
          try clear hcz44_1
          try clear hcz45_0
          try clear hcz45_1
          try clear hcz48_0
          try clear hcz48_1
          try clear hcz49_0
          try clear hcz49_1
          try clear hcz52_0
          try clear hcz52_1
          try clear hcz53_0
          try clear hcz53_1
          try clear hcz56_0
          try clear hcz56_1
          try clear hcz57_0
          try clear hcz57_1
          try clear hcz58_0
          try clear hcz58_1
          try clear hcz9_0
          try clear hcz9_1
          try clear hfz14_0
          try clear hfz14_1
          try clear hfz18_0
          try clear hfz18_1
          try clear hfz33_0
          try clear hfz33_1
          try clear hfz36_0
          try clear hfz36_1
          try clear hfz38_0
          try clear hfz38_1
          try clear hfz41_0
          try clear hfz41_1
          try clear hfz44_0
          try clear hfz44_1
          try clear hfz45_0
          try clear hfz45_1
          try clear hfz48_0
          try clear hfz48_1
          try clear hfz49_0
          try clear hfz49_1
          try clear hfz52_0
          try clear hfz52_1
          try clear hfz53_0
          try clear hfz53_1
          try clear hfz56_0
          try clear hfz56_1
          try clear hfz57_0
          try clear hfz57_1
          try clear hfz58_0
          try clear hfz58_1
          try clear hfz9_0
          try clear hfz9_1
          try clear hx13_0
          try clear hx181_0
          try clear hx181_1
          try clear hx183_0
          try clear hx184_0
          try clear hx185_0
          try clear hx186_0
          try clear hx187_0
          try clear hx188_0
          try clear hx32_0
          try clear p1
          try clear p13
          try clear p181
          try clear p183
          try clear p184
          try clear p185
          try clear p186
          try clear p187
          try clear p188
          try clear p2
          try clear p32
          try clear p6
          try clear q1
          try clear q13
          try clear q181
          try clear q183
          try clear q184
          try clear q185
          try clear q186
          try clear q187
          try clear q188
          try clear q32
          obtain ⟨x4_3, x16_3, rfl, HA, HK3, HO_11, HO_16, BK176, HB⟩ := hrel
          cases gk with
          | zero => exact absurd HA.out (by simp [mapmakerref38_way.l3])
          | succ k3 =>
           have H := HA.out
           clear HA
           simp only [mapmakerref38_way.l3] at H
           by_cases c59 : x4_3 = a3
           ·rw [if_pos c59] at H
            have c59b0 : (x4_3 == a3) = true := beq_iff_eq.mpr c59
            have c59b1 : (x4_3 != a3) = false := bne_eq_false_iff_eq.mpr c59
            clear c59
            have H' := Aside0.mk H
            clear H
            obtain ⟨Ao60, co60, eo60⟩ := Kd.R_slice HO_16.out
            subst eo60
            go_wp2
            repeat (go_quiet (fail); try go_wp2)
            go_loopg [19, 20] k3 (fun kq v19 v20 w' => ∃ (x19_4 : List Int) (x20_4 : Int), v20 = .int .i64 x20_4 ∧ Aside0 (mapmakerref38_way.l5 kq x16_3 x19_4 x20_4 = some r) ∧ Aside0 (kq ≤ k3) ∧ Aside0 (Kd.R (Kd.int .i64) 3 w' w.heap.size (fun k_ => some k_ ≠ (v19 : Value).ownBlock) (.slice Ao60 x16_3.length co60) x16_3) ∧ Aside0 (Kd.R (Kd.int .i64) 3 w' w.heap.size (fun k_ => some k_ ≠ ((.slice Ao60 x16_3.length co60) : Value).ownBlock) v19 x19_4) ∧ Aside0 (w'.heap[gb176]? = some (.cells #[.int .i64 a0_0, (.slice A0_1 l0_1.length c0_1)] 24 (0, 0))) ∧ Aside0 (Below w.heap.size w w'))
            case atStart => exact ⟨(([] : List Int)), (wrap64 ((x16_3.length : Int) - 1)), (by first | rfl | (simp; done) | (simp [*]; done)), H', ⟨Nat.le_refl _⟩, ⟨by (try simp only [hl11_2]); (with_reducible repeat (first | apply Kd.R_alloc | apply Kd.R_drewN | apply Kd.R_drew)); exact Kd.R_mono HO_16.out (fun _ hk => (by simp [Value.ownBlock]))⟩, ⟨by (try simp only [hl11_2]); first | exact Kd.R_nil _ _ _ _ _ | exact Kd.N_nil _ _ _ _ _ | exact Kd.V_nil _ _ _ _ _ | exact Kd.Q_nil _ _ _ _ _ | exact Kd.S_nil _ _ _ _ _⟩, ⟨by (try simp only [hl11_2]); (with_reducible repeat first | apply blk_drewN | apply blk_drew | apply blk_alloc); exact BK176.out⟩, ⟨by repeat (first | (with_reducible first | exact HB.out | apply below_alloc | apply pw_below_drewN | apply below_drew1 | refine below_set ?_ GE176.out) | exact HB.out)⟩⟩
            case round =>
             clear H'
             try clear c1
             try clear p1
             try clear q1
             try clear hx1
             try clear c2
             try clear p2
             try clear c3
             try clear p3
             try clear q3
             try clear hx3
             try clear c4
             try clear c5
             try clear p6
             try clear c7
             try clear c7b0
             try clear c8
             try clear c11
             try clear c11b0
             try clear c12
             try clear c12b0
             try clear p13
             try clear q13
             try clear hx13
             try clear hf13
             try clear c17
             try clear c17b0
             try clear p18
             try clear q18
             try clear hx18
             try clear c19
             try clear c19b0
             try clear c20
             try clear c20b0
             try clear c21
             try clear c21b0
             try clear c22
             try clear c22b0
             try clear c23
             try clear c23b0
             try clear c24
             try clear c24b0
             try clear c25
             try clear c25b0
             try clear c25b1
             try clear c26
             try clear c26b0
             try clear c27
             try clear c27b0
             try clear c28
             try clear c28b0
             try clear c29
             try clear c29b0
             try clear c30
             try clear c30b0
             try clear c31
             try clear c31b0
             try clear c31b1
             try clear p32
             try clear q32
             try clear hx32
             try clear hf32
             try clear c35
             try clear c43
             try clear c47
             try clear c51
             try clear c55
             try clear c59
             try clear c59b0
             try clear c59b1
             try clear hcz14_0
             try clear hcz14_1
             try clear hcz18_0
             try clear hcz18_1
             try clear hcz33_0
             try clear hcz33_1
             try clear hcz36_0
             try clear hcz36_1
             try clear hcz38_0
             try clear hcz38_1
             try clear hcz41_0
             try clear hcz41_1
             try clear hcz44_0
             try clear hcz44_1
             try clear hcz45_0
             try clear hcz45_1
             try clear hcz48_0
             try clear hcz48_1
             try clear hcz49_0
             try clear hcz49_1
             try clear hcz52_0
             try clear hcz52_1
             try clear hcz53_0
             try clear hcz53_1
             try clear hcz56_0
             try clear hcz56_1
             try clear hcz57_0
             try clear hcz57_1
             try clear hcz58_0
             try clear hcz58_1
             try clear hcz9_0
             try clear hcz9_1
             try clear hfz14_0
             try clear hfz14_1
             try clear hfz18_0
             try clear hfz18_1
             try clear hfz33_0
             try clear hfz33_1
             try clear hfz36_0
             try clear hfz36_1
             try clear hfz38_0
             try clear hfz38_1
             try clear hfz41_0
             try clear hfz41_1
             try clear hfz44_0
             try clear hfz44_1
             try clear hfz45_0
             try clear hfz45_1
             try clear hfz48_0
             try clear hfz48_1
             try clear hfz49_0
             try clear hfz49_1
             try clear hfz52_0
             try clear hfz52_1
             try clear hfz53_0
             try clear hfz53_1
             try clear hfz56_0
             try clear hfz56_1
             try clear hfz57_0
             try clear hfz57_1
             try clear hfz58_0
             try clear hfz58_1
             try clear hfz9_0
             try clear hfz9_1
             try clear hx13_0
             try clear hx181_0
             try clear hx181_1
             try clear hx183_0
             try clear hx184_0
             try clear hx185_0
             try clear hx186_0
             try clear hx187_0
             try clear hx188_0
             try clear hx32_0
             try clear p1
             try clear p13
             try clear p18
             try clear p181
             try clear p183
             try clear p184
             try clear p185
             try clear p186
             try clear p187
             try clear p188
             try clear p2
             try clear p3
             try clear p32
             try clear p6
             try clear q1
             try clear q13
             try clear q18
             try clear q181
             try clear q183
             try clear q184
             try clear q185
             try clear q186
             try clear q187
             try clear q188
             try clear q3
             try clear q32
             obtain ⟨x19_4, x20_4, rfl, HA, HK4, HO_16, HO_19, BK176, HB⟩ := hrel
             cases gk with
             | zero => exact absurd HA.out (by simp [mapmakerref38_way.l5])
             | succ k4 =>
              have H := HA.out
              clear HA
              simp only [mapmakerref38_way.l5] at H
              by_cases c61 : x20_4 ≥ 0
              ·rw [if_pos c61] at H
               have c61b0 : decide (0 ≤ x20_4) = true := decide_eq_true c61
               clear c61
               by_cases c62 : 0 ≤ x20_4
               ·rw [if_pos c62] at H
                have c62b0 : decide (0 ≤ x20_4) = true := decide_eq_true c62
                clear c62
                by_cases c63 : x20_4 < (x16_3.length : Int)
                ·rw [if_pos c63] at H
                 have c63b0 : decide (x20_4 < (x16_3.length : Int)) = true := decide_eq_true c63
                 clear c63
                 by_cases c64 : x19_4.length < 17592186044416
                 ·rw [if_pos c64] at H
                  have LMc64 := Aside0.mk c64
                  clear c64
                  obtain ⟨y203, hy203⟩ : ∃ y_ : List Int, y_ = (x19_4 ++ [rd x16_3 x20_4]) := ⟨_, rfl⟩
                  replace H : (mapmakerref38_way.l5 k4 x16_3 y203 (wrap64 (x20_4 - 1))) = some r := by first | (rw [hy203]; with_reducible exact H) | (have H2_ := (Option.bind_some _ _).symm.trans H; rw [hy203]; with_reducible exact H2_) | (have H2_ := (Option.bind_some _ _).symm.trans H; with_reducible exact H2_) | with_reducible exact H | (rw [hy203]; exact H) | exact H
                  have Ny203 := Aside0.mk hy203
                  clear hy203
                  have H' := Aside0.mk H
                  clear H
                  have p202 : 0 ≤ (x20_4 : Int) := of_decide_eq_true (by first | (with_reducible assumption) | assumption)
                  have q202 : x20_4 < (x16_3.length : Int) := of_decide_eq_true (by first | (with_reducible assumption) | assumption)
                  obtain ⟨ad202, e202, hx202_0⟩ := Kd.at_int (Kd.R_reads' HO_16.out).2.2 x20_4 p202 q202
                  cases e202
                  replace p202 := eq_true p202
                  replace q202 := eq_true q202
                  go_wp2_with (first | ((with_reducible refine gate_builtin (b := .append) (xs := #[.tmp 174, .tmp 179]) rfl ?_); at_builtin; refine Kd.R_append (Kd.int .i64) (w0 := w) w.heap.size rfl (.tmp 174) (.tmp 179) 25 3 (.int .i64 0) 8 rfl Try.underlying25 info3 rfl (by decide) (by omega) u19 x19_4 (rd x16_3 x20_4) [.int .i64 (rd x16_3 x20_4)] (fun k_ => some k_ ≠ (.slice (some ad202) x16_3.length co60 : Value).ownBlock) (fun _ => False) rfl rfl ?aP (fun _ hk => hk.elim) ?aF ?aO ?aB ?aS ?aL ?_; (case aP => exact rfl); (case aB => exact (by repeat (first | (with_reducible first | exact HB.out | apply below_alloc | apply pw_below_drewN | apply below_drew1 | refine below_set ?_ GE176.out) | exact HB.out))); (case aF => exact (fun k_ hk => Kd.fresh' (Kd.R_lt (by (with_reducible repeat (first | apply Kd.R_alloc | apply Kd.R_drewN | apply Kd.R_drew)); exact HO_16.out)) k_ hk)); (case aO => exact (by (with_reducible repeat (first | apply Kd.R_alloc | apply Kd.R_drewN | apply Kd.R_drew)); exact HO_19.out)); (case aS => exact (below_size (by repeat (first | (with_reducible first | exact HB.out | apply below_alloc | apply pw_below_drewN | apply below_drew1 | refine below_set ?_ GE176.out) | exact HB.out)))); (case aL => have := LMc64.out; omega); intro v204 w65 ho hb hg hat; rw [← Ny203.out] at ho; have n0_ := Aside0.mk (Kd.R_after (ok := (fun _ => True)) (by (with_reducible repeat (first | apply Kd.R_alloc | apply Kd.R_drewN | apply Kd.R_drew)); exact Kd.R_mono HO_16.out (fun _ hk => ⟨trivial, hk⟩)) hg hat); have n1_ := Aside0.mk (blk_grown (by (with_reducible repeat first | apply blk_drewN | apply blk_drew | apply blk_alloc); exact BK176.out) hg (Kd.R_ne HO_19.out BK176.out (by decide))); have n2_ := Aside0.mk (hb); have n3_ := Aside0.mk (ho); clear HO_16 BK176 HB HO_19; have HO_16 := n0_; have BK176 := n1_; have HB := n2_; have HO205 := n3_; clear n0_ n1_ n2_ n3_ ho hb hg hat))
                  repeat (go_quiet (first | ((with_reducible refine gate_builtin (b := .append) (xs := #[.tmp 174, .tmp 179]) rfl ?_); at_builtin; refine Kd.R_append (Kd.int .i64) (w0 := w) w.heap.size rfl (.tmp 174) (.tmp 179) 25 3 (.int .i64 0) 8 rfl Try.underlying25 info3 rfl (by decide) (by omega) u19 x19_4 (rd x16_3 x20_4) [.int .i64 (rd x16_3 x20_4)] (fun k_ => some k_ ≠ (.slice (some ad202) x16_3.length co60 : Value).ownBlock) (fun _ => False) rfl rfl ?aP (fun _ hk => hk.elim) ?aF ?aO ?aB ?aS ?aL ?_; (case aP => exact rfl); (case aB => exact (by repeat (first | (with_reducible first | exact HB.out | apply below_alloc | apply pw_below_drewN | apply below_drew1 | refine below_set ?_ GE176.out) | exact HB.out))); (case aF => exact (fun k_ hk => Kd.fresh' (Kd.R_lt (by (with_reducible repeat (first | apply Kd.R_alloc | apply Kd.R_drewN | apply Kd.R_drew)); exact HO_16.out)) k_ hk)); (case aO => exact (by (with_reducible repeat (first | apply Kd.R_alloc | apply Kd.R_drewN | apply Kd.R_drew)); exact HO_19.out)); (case aS => exact (below_size (by repeat (first | (with_reducible first | exact HB.out | apply below_alloc | apply pw_below_drewN | apply below_drew1 | refine below_set ?_ GE176.out) | exact HB.out)))); (case aL => have := LMc64.out; omega); intro v204 w65 ho hb hg hat; rw [← Ny203.out] at ho; have n0_ := Aside0.mk (Kd.R_after (ok := (fun _ => True)) (by (with_reducible repeat (first | apply Kd.R_alloc | apply Kd.R_drewN | apply Kd.R_drew)); exact Kd.R_mono HO_16.out (fun _ hk => ⟨trivial, hk⟩)) hg hat); have n1_ := Aside0.mk (blk_grown (by (with_reducible repeat first | apply blk_drewN | apply blk_drew | apply blk_alloc); exact BK176.out) hg (Kd.R_ne HO_19.out BK176.out (by decide))); have n2_ := Aside0.mk (hb); have n3_ := Aside0.mk (ho); clear HO_16 BK176 HB HO_19; have HO_16 := n0_; have BK176 := n1_; have HB := n2_; have HO205 := n3_; clear n0_ n1_ n2_ n3_ ho hb hg hat)); try go_wp2_with (first | ((with_reducible refine gate_builtin (b := .append) (xs := #[.tmp 174, .tmp 179]) rfl ?_); at_builtin; refine Kd.R_append (Kd.int .i64) (w0 := w) w.heap.size rfl (.tmp 174) (.tmp 179) 25 3 (.int .i64 0) 8 rfl Try.underlying25 info3 rfl (by decide) (by omega) u19 x19_4 (rd x16_3 x20_4) [.int .i64 (rd x16_3 x20_4)] (fun k_ => some k_ ≠ (.slice (some ad202) x16_3.length co60 : Value).ownBlock) (fun _ => False) rfl rfl ?aP (fun _ hk => hk.elim) ?aF ?aO ?aB ?aS ?aL ?_; (case aP => exact rfl); (case aB => exact (by repeat (first | (with_reducible first | exact HB.out | apply below_alloc | apply pw_below_drewN | apply below_drew1 | refine below_set ?_ GE176.out) | exact HB.out))); (case aF => exact (fun k_ hk => Kd.fresh' (Kd.R_lt (by (with_reducible repeat (first | apply Kd.R_alloc | apply Kd.R_drewN | apply Kd.R_drew)); exact HO_16.out)) k_ hk)); (case aO => exact (by (with_reducible repeat (first | apply Kd.R_alloc | apply Kd.R_drewN | apply Kd.R_drew)); exact HO_19.out)); (case aS => exact (below_size (by repeat (first | (with_reducible first | exact HB.out | apply below_alloc | apply pw_below_drewN | apply below_drew1 | refine below_set ?_ GE176.out) | exact HB.out)))); (case aL => have := LMc64.out; omega); intro v204 w65 ho hb hg hat; rw [← Ny203.out] at ho; have n0_ := Aside0.mk (Kd.R_after (ok := (fun _ => True)) (by (with_reducible repeat (first | apply Kd.R_alloc | apply Kd.R_drewN | apply Kd.R_drew)); exact Kd.R_mono HO_16.out (fun _ hk => ⟨trivial, hk⟩)) hg hat); have n1_ := Aside0.mk (blk_grown (by (with_reducible repeat first | apply blk_drewN | apply blk_drew | apply blk_alloc); exact BK176.out) hg (Kd.R_ne HO_19.out BK176.out (by decide))); have n2_ := Aside0.mk (hb); have n3_ := Aside0.mk (ho); clear HO_16 BK176 HB HO_19; have HO_16 := n0_; have BK176 := n1_; have HB := n2_; have HO205 := n3_; clear n0_ n1_ n2_ n3_ ho hb hg hat)))
                  go_roundg k4
                  case measure => have := HK1.out; have := HK2.out; have := HK3.out; have := HK4.out; omega
                  case rel => exact ⟨(y203), (wrap64 (x20_4 - 1)), (by first | rfl | (simp; done) | (simp [*]; done)), H', ⟨by have := HK1.out; have := HK2.out; have := HK3.out; have := HK4.out; omega⟩, ⟨by (try simp only [hl11_2]); (with_reducible repeat (first | apply Kd.R_alloc | apply Kd.R_drewN | apply Kd.R_drew)); exact Kd.R_mono HO_16.out (fun _ hk => hk.2)⟩, ⟨by (try simp only [hl11_2]); (with_reducible repeat (first | apply Kd.R_alloc | apply Kd.R_drewN | apply Kd.R_drew)); exact HO205.out⟩, ⟨by (try simp only [hl11_2]); (with_reducible repeat first | apply blk_drewN | apply blk_drew | apply blk_alloc); exact BK176.out⟩, ⟨by repeat (first | (with_reducible first | exact HB.out | apply below_alloc | apply pw_below_drewN | apply below_drew1 | refine below_set ?_ GE176.out) | exact HB.out)⟩⟩
                 ·rw [if_neg c64] at H
                  exact absurd H (by simp)
                ·rw [if_neg c63] at H
                 exact absurd H (by simp)
               ·rw [if_neg c62] at H
                exact absurd H (by simp)
              ·rw [if_neg c61] at H
               have c61b0 : decide (0 ≤ x20_4) = false := decide_eq_false c61
               clear c61
               obtain rfl := Option.some.inj H
               go_wp2
               repeat (go_quiet (fail); try go_wp2)
               go_ret
               exact ⟨_, by first | rfl | (simp [errW_none, errW_some] <;> rfl) | (simp [*, errW_none, errW_some] <;> rfl), by (with_reducible repeat (first | apply Kd.R_alloc | apply Kd.R_drewN | apply Kd.R_drew)); exact Kd.R_mono HO_19.out (fun _ hk => trivial), by repeat (first | (with_reducible first | exact HB.out | apply below_alloc | apply pw_below_drewN | apply below_drew1 | refine below_set ?_ GE176.out) | exact HB.out)⟩
           ·rw [if_neg c59] at H
            have c59b0 : (x4_3 == a3) = false := beq_eq_false_iff_ne.mpr c59
            have c59b1 : (x4_3 != a3) = true := bne_iff_ne.mpr c59
            have H' := Aside0.mk H
            clear H
            go_wp2
            repeat (go_quiet (fail); try go_wp2)
            go_loopg [4, 16, 17] k3 (fun kq v4 v16 v17 w' => ∃ (x4_4 : Int) (x16_4 : List Int) (x17_4 : Int), v4 = .int .i64 x4_4 ∧ v17 = .int .i64 x17_4 ∧ Aside0 (mapmakerref38_way.l4 kq l1 l2 a3 x4_4 x11_2 x16_4 x17_4 a0_0 l0_1 = some r) ∧ Aside0 (kq ≤ k3) ∧ Aside0 (Kd.R (Kd.int .i64) 3 w' w.heap.size (fun k_ => some k_ ≠ (v16 : Value).ownBlock) (.slice (some ⟨go13, 0, none⟩) x11_2.length co13) x11_2) ∧ Aside0 (Kd.R (Kd.int .i64) 3 w' w.heap.size (fun k_ => some k_ ≠ ((.slice (some ⟨go13, 0, none⟩) x11_2.length co13) : Value).ownBlock) v16 x16_4) ∧ Aside0 (w'.heap[gb176]? = some (.cells #[.int .i64 a0_0, (.slice A0_1 l0_1.length c0_1)] 24 (0, 0))) ∧ Aside0 (Below w.heap.size w w'))
            case atStart => exact ⟨(x4_3), (x16_3), (0), (by first | rfl | (simp; done) | (simp [*]; done)), (by first | rfl | (simp; done) | (simp [*]; done)), H', ⟨Nat.le_refl _⟩, ⟨by (try simp only [hl11_2]); (with_reducible repeat (first | apply Kd.R_alloc | apply Kd.R_drewN | apply Kd.R_drew)); exact HO_11.out⟩, ⟨by (try simp only [hl11_2]); (with_reducible repeat (first | apply Kd.R_alloc | apply Kd.R_drewN | apply Kd.R_drew)); exact HO_16.out⟩, ⟨by (try simp only [hl11_2]); (with_reducible repeat first | apply blk_drewN | apply blk_drew | apply blk_alloc); exact BK176.out⟩, ⟨by repeat (first | (with_reducible first | exact HB.out | apply below_alloc | apply pw_below_drewN | apply below_drew1 | refine below_set ?_ GE176.out) | exact HB.out)⟩⟩
            case round =>
             clear H'
             try clear c1
             try clear p1
             try clear q1
             try clear hx1
             try clear c2
             try clear p2
             try clear q2
             try clear hx2
             try clear c3
             try clear p3
             try clear q3
             try clear hx3
             try clear c4
             try clear c5
             try clear c6
             try clear p6
             try clear c7
             try clear c7b0
             try clear c8
             try clear c11
             try clear c11b0
             try clear c12
             try clear c12b0
             try clear p13
             try clear q13
             try clear hx13
             try clear hf13
             try clear c17
             try clear c17b0
             try clear p18
             try clear q18
             try clear hx18
             try clear c19
             try clear c19b0
             try clear c20
             try clear c20b0
             try clear p20
             try clear q20
             try clear hx20
             try clear c21
             try clear c21b0
             try clear c22
             try clear c22b0
             try clear c23
             try clear c23b0
             try clear c24
             try clear c24b0
             try clear c25
             try clear c25b0
             try clear c25b1
             try clear c26
             try clear c26b0
             try clear c27
             try clear c27b0
             try clear c28
             try clear c28b0
             try clear c29
             try clear c29b0
             try clear c30
             try clear c30b0
             try clear c31
             try clear c31b0
             try clear c31b1
             try clear p32
             try clear q32
             try clear hx32
             try clear hf32
             try clear c35
             try clear c43
             try clear c47
             try clear c51
             try clear c55
             try clear c59
             try clear c59b0
             try clear c59b1
             try clear c61
             try clear c61b0
             try clear c62
             try clear c62b0
             try clear c63
             try clear c63b0
             try clear c64
             try clear p64
             try clear hcz14_0
             try clear hcz14_1
             try clear hcz18_0
             try clear hcz18_1
             try clear hcz33_0
             try clear hcz33_1
             try clear hcz36_0
             try clear hcz36_1
             try clear hcz38_0
             try clear hcz38_1
             try clear hcz41_0
             try clear hcz41_1
             try clear hcz44_0
             try clear hcz44_1
             try clear hcz45_0
             try clear hcz45_1
             try clear hcz48_0
             try clear hcz48_1
             try clear hcz49_0
             try clear hcz49_1
             try clear hcz52_0
             try clear hcz52_1
             try clear hcz53_0
             try clear hcz53_1
             try clear hcz56_0
             try clear hcz56_1
             try clear hcz57_0
             try clear hcz57_1
             try clear hcz58_0
             try clear hcz58_1
             try clear hcz9_0
             try clear hcz9_1
             try clear hfz14_0
             try clear hfz14_1
             try clear hfz18_0
             try clear hfz18_1
             try clear hfz33_0
             try clear hfz33_1
             try clear hfz36_0
             try clear hfz36_1
             try clear hfz38_0
             try clear hfz38_1
             try clear hfz41_0
             try clear hfz41_1
             try clear hfz44_0
             try clear hfz44_1
             try clear hfz45_0
             try clear hfz45_1
             try clear hfz48_0
             try clear hfz48_1
             try clear hfz49_0
             try clear hfz49_1
             try clear hfz52_0
             try clear hfz52_1
             try clear hfz53_0
             try clear hfz53_1
             try clear hfz56_0
             try clear hfz56_1
             try clear hfz57_0
             try clear hfz57_1
             try clear hfz58_0
             try clear hfz58_1
             try clear hfz9_0
             try clear hfz9_1
             try clear hx13_0
             try clear hx181_0
             try clear hx181_1
             try clear hx183_0
             try clear hx184_0
             try clear hx185_0
             try clear hx186_0
             try clear hx187_0
             try clear hx188_0
             try clear hx202_0
             try clear hx32_0
             try clear p1
             try clear p13
             try clear p18
             try clear p181
             try clear p183
             try clear p184
             try clear p185
             try clear p186
             try clear p187
             try clear p188
             try clear p2
             try clear p202
             try clear p3
             try clear p32
             try clear p6
             try clear q1
             try clear q13
             try clear q18
             try clear q181
             try clear q183
             try clear q184
             try clear q185
             try clear q186
             try clear q187
             try clear q188
             try clear q202
             try clear q3
             try clear q32
             obtain ⟨x4_4, x16_4, x17_4, rfl, rfl, HA, HK4, HO_11, HO_16, BK176, HB⟩ := hrel
             cases gk with
             | zero => exact absurd HA.out (by simp [mapmakerref38_way.l4])
             | succ k4 =>
              have H := HA.out
              clear HA
              simp only [mapmakerref38_way.l4] at H
              by_cases c66 : x17_4 < (l0_1.length : Int)
              ·rw [if_pos c66] at H
               have c66b0 : decide (x17_4 < (l0_1.length : Int)) = true := decide_eq_true c66
               clear c66
               by_cases c67 : 0 ≤ x17_4
               ·rw [if_pos c67] at H
                have c67b0 : decide (0 ≤ x17_4) = true := decide_eq_true c67
                clear c67
                by_cases c68 : x17_4 < (l1.length : Int)
                ·rw [if_pos c68] at H
                 have c68b0 : decide (x17_4 < (l1.length : Int)) = true := decide_eq_true c68
                 clear c68
                 by_cases c69 : (rd l1 x17_4) ≥ 0
                 ·rw [if_pos c69] at H
                  have c69b0 : decide (0 ≤ (rd l1 x17_4)) = true := decide_eq_true c69
                  clear c69
                  by_cases c70 : ((rd_T40 l0_1 x17_4).f1) = x4_4
                  ·rw [if_pos c70] at H
                   have c70b0 : (((rd_T40 l0_1 x17_4).f1) == x4_4) = true := beq_iff_eq.mpr c70
                   have c70b1 : (((rd_T40 l0_1 x17_4).f1) != x4_4) = false := bne_eq_false_iff_eq.mpr c70
                   clear c70
                   by_cases c71 : 0 ≤ ((rd_T40 l0_1 x17_4).f0)
                   ·rw [if_pos c71] at H
                    have c71b0 : decide (0 ≤ ((rd_T40 l0_1 x17_4).f0)) = true := decide_eq_true c71
                    clear c71
                    by_cases c72 : ((rd_T40 l0_1 x17_4).f0) < (x11_2.length : Int)
                    ·rw [if_pos c72] at H
                     have c72b0 : decide (((rd_T40 l0_1 x17_4).f0) < (x11_2.length : Int)) = true := decide_eq_true c72
                     clear c72
                     by_cases c73 : (rd x11_2 ((rd_T40 l0_1 x17_4).f0)) ≥ 0
                     ·rw [if_pos c73] at H
                      have c73b0 : decide (0 ≤ (rd x11_2 ((rd_T40 l0_1 x17_4).f0))) = true := decide_eq_true c73
                      clear c73
                      by_cases c74 : 0 ≤ x4_4
                      ·rw [if_pos c74] at H
                       have c74b0 : decide (0 ≤ x4_4) = true := decide_eq_true c74
                       clear c74
                       by_cases c75 : x4_4 < (x11_2.length : Int)
                       ·rw [if_pos c75] at H
                        have c75b0 : decide (x4_4 < (x11_2.length : Int)) = true := decide_eq_true c75
                        clear c75
                        by_cases c76 : (wrap64 ((rd x11_2 ((rd_T40 l0_1 x17_4).f0)) + 1)) = (rd x11_2 x4_4)
                        ·rw [if_pos c76] at H
                         have c76b0 : ((wrap64 ((rd x11_2 ((rd_T40 l0_1 x17_4).f0)) + 1)) == (rd x11_2 x4_4)) = true := beq_iff_eq.mpr c76
                         have c76b1 : ((wrap64 ((rd x11_2 ((rd_T40 l0_1 x17_4).f0)) + 1)) != (rd x11_2 x4_4)) = false := bne_eq_false_iff_eq.mpr c76
                         clear c76
                         by_cases c77 : ((rd_T40 l0_1 x17_4).f0) < (l2.length : Int)
                         ·rw [if_pos c77] at H
                          have c77b0 : decide (((rd_T40 l0_1 x17_4).f0) < (l2.length : Int)) = true := decide_eq_true c77
                          clear c77
                          by_cases c78 : x4_4 < (l2.length : Int)
                          ·rw [if_pos c78] at H
                           have c78b0 : decide (x4_4 < (l2.length : Int)) = true := decide_eq_true c78
                           clear c78
                           by_cases c79 : (wrap64 ((rd l2 ((rd_T40 l0_1 x17_4).f0)) + (rd l1 x17_4))) = (rd l2 x4_4)
                           ·rw [if_pos c79] at H
                            have c79b0 : ((wrap64 ((rd l2 ((rd_T40 l0_1 x17_4).f0)) + (rd l1 x17_4))) == (rd l2 x4_4)) = true := beq_iff_eq.mpr c79
                            have c79b1 : ((wrap64 ((rd l2 ((rd_T40 l0_1 x17_4).f0)) + (rd l1 x17_4))) != (rd l2 x4_4)) = false := bne_eq_false_iff_eq.mpr c79
                            clear c79
                            by_cases c80 : x16_4.length < 17592186044416
                            ·rw [if_pos c80] at H
                             have LMc80 := Aside0.mk c80
                             clear c80
                             obtain ⟨y199, hy199⟩ : ∃ y_ : List Int, y_ = (x16_4 ++ [x17_4]) := ⟨_, rfl⟩
                             replace H : (mapmakerref38_way.l3 k4 l1 l2 a3 ((rd_T40 l0_1 x17_4).f0) x11_2 y199 a0_0 l0_1) = some r := by first | (rw [hy199]; with_reducible exact H) | (have H2_ := (Option.bind_some _ _).symm.trans H; rw [hy199]; with_reducible exact H2_) | (have H2_ := (Option.bind_some _ _).symm.trans H; with_reducible exact H2_) | with_reducible exact H | (rw [hy199]; exact H) | exact H
                             have Ny199 := Aside0.mk hy199
                             clear hy199
                             have H' := Aside0.mk H
                             clear H
                             have hcz81_0 : wr.cell? ⟨gb176, 0, none⟩ = some (.int .i64 a0_0) := (blk_cell BK176.out 0).trans rfl
                             have hcz81_1 : wr.cell? ⟨gb176, 1, none⟩ = some (.slice A0_1 l0_1.length c0_1) := (blk_cell BK176.out 1).trans rfl
                             have hfz81_0 := blk_frozen BK176.out 0
                             have hfz81_1 := blk_frozen BK176.out 1
                             have p190 : 0 ≤ (x17_4 : Int) := of_decide_eq_true (by first | (with_reducible assumption) | assumption)
                             have q190 : x17_4 < (l0_1.length : Int) := of_decide_eq_true (by first | (with_reducible assumption) | assumption)
                             obtain ⟨ad190, e190, hx190_0, hx190_1⟩ := at_T40 HR0_1.out x17_4 p190 q190
                             cases e190
                             replace hx190_0 := (HB.out.cell (World.block_lt_of_cell? w _ hx190_0)).trans hx190_0
                             replace hx190_1 := (HB.out.cell (World.block_lt_of_cell? w _ hx190_1)).trans hx190_1
                             replace p190 := eq_true p190
                             replace q190 := eq_true q190
                             iterate 3 (go_wp2_with (first | ((with_reducible refine gate_dst (N := 18) rfl ?_); refine box_event ?hg (N := 18) ?hd (cs := #[.int .i64 0, .int .i64 0]) (t := 40) ?hr ?_; (case hd => rfl); (case hg => rfl); (case hr => first | (go_simp; done) | (go_simp; rfl)); intro gb191 hg w82 hbox hb; have n0_ := Aside0.mk (Kd.R_below (by (with_reducible repeat (first | apply Kd.R_alloc | apply Kd.R_drewN | apply Kd.R_drew)); exact HO_11.out) hb); have n1_ := Aside0.mk (Kd.R_below (by (with_reducible repeat (first | apply Kd.R_alloc | apply Kd.R_drewN | apply Kd.R_drew)); exact HO_16.out) hb); have n2_ := Aside0.mk (blk_below (by (with_reducible repeat first | apply blk_drewN | apply blk_drew | apply blk_alloc); exact BK176.out) hb); have n3_ := Aside0.mk (below_step (by repeat (first | (with_reducible first | exact HB.out | apply below_alloc | apply pw_below_drewN | apply below_drew1 | refine below_set ?_ GE176.out) | exact HB.out)) hb); have n4_ := Aside0.mk (hbox); have n5_ := Aside0.mk ((by rw [hg]; exact (below_size (by repeat (first | (with_reducible first | exact HB.out | apply below_alloc | apply pw_below_drewN | apply below_drew1 | refine below_set ?_ GE176.out) | exact HB.out))) : w.heap.size ≤ gb191)); have n6_ := n5_; have n7_ := Aside0.mk ((by rw [hg]; exact Nat.ne_of_lt (blk_lt (by (with_reducible repeat first | apply blk_drewN | apply blk_drew | apply blk_alloc); exact BK176.out)) : gb176 ≠ gb191)); have n8_ : Aside0 (gb191 ≠ gb176) := ⟨Ne.symm n7_.out⟩; clear HO_11 HO_16 BK176 HB; have HO_11 := n0_; have HO_16 := n1_; have BK176 := n2_; have HB := n3_; have BK191 := n4_; have GW191 := n5_; have GE191 := n6_; have NB176_191 := n7_; have NB191_176 := n8_; clear n0_ n1_ n2_ n3_ n4_ n5_ n6_ n7_ n8_ hb hbox hg; have hnb83 := NB191_176.out; have hnc83 := NB176_191.out; have hcz84_0 : w82.cell? ⟨gb191, 0, none⟩ = some (.int .i64 0) := (blk_cell BK191.out 0).trans rfl; have hcz84_1 : w82.cell? ⟨gb191, 1, none⟩ = some (.int .i64 0) := (blk_cell BK191.out 1).trans rfl; have hfz84_0 := blk_frozen BK191.out 0; have hfz84_1 := blk_frozen BK191.out 1; have p192 : 0 ≤ (x17_4 : Int) := of_decide_eq_true (by first | (with_reducible assumption) | assumption); have q192 : x17_4 < (l1.length : Int) := of_decide_eq_true (by first | (with_reducible assumption) | assumption); obtain ⟨ad192, e192, hx192_0⟩ := Kd.at_int HR1.out x17_4 p192 q192; cases e192; have hn192_0 : ad192.block ≠ gb191 := Nat.ne_of_lt (Nat.lt_of_lt_of_le (by have := World.block_lt_of_cell? _ _ hx192_0; first | rwa [add_block] at this | exact this) GW191.out); have hn192_1 : ad192.block ≠ gb191 := Nat.ne_of_lt (Nat.lt_of_lt_of_le (by have := World.block_lt_of_cell? _ _ hx192_0; first | rwa [add_block] at this | exact this) GW191.out); replace hx192_0 := (HB.out.cell (World.block_lt_of_cell? w _ hx192_0)).trans hx192_0; replace hx192_0 := (cell_far (p := ⟨gb191, 0, none⟩) (by first | (rw [add_block]; exact hn192_0) | (show (Addr.add _ _).block ≠ _; rw [add_block]; exact hn192_0) | exact hn192_0) (.int .i64 ((rd_T40 l0_1 x17_4).f0))).trans hx192_0; replace hx192_0 := (cell_far (p := ⟨gb191, 1, none⟩) (by first | (rw [add_block]; exact hn192_1) | (show (Addr.add _ _).block ≠ _; rw [add_block]; exact hn192_1) | exact hn192_1) (.int .i64 ((rd_T40 l0_1 x17_4).f1))).trans hx192_0; (try have hy192_0 := fun (n_ : Nat) => (show ((((w82.drewN n_).setCell ⟨gb191, 0, none⟩ (.int .i64 ((rd_T40 l0_1 x17_4).f0))).setCell ⟨gb191, 1, none⟩ (.int .i64 ((rd_T40 l0_1 x17_4).f1)))).cell? _ = some _ from hx192_0)); clear hn192_0 hn192_1; replace p192 := eq_true p192; replace q192 := eq_true q192; have p193 : 0 ≤ (((rd_T40 l0_1 x17_4).f0) : Int) := of_decide_eq_true (by first | (with_reducible assumption) | assumption); have q193 : ((rd_T40 l0_1 x17_4).f0) < (x11_2.length : Int) := of_decide_eq_true (by first | (with_reducible assumption) | assumption); obtain ⟨ad193, e193, hx193_0⟩ := Kd.at_int (Kd.R_reads' HO_11.out).2.2 ((rd_T40 l0_1 x17_4).f0) p193 q193; obtain rfl : (⟨go13, 0, none⟩ : Addr) = ad193 := (by injection e193); (first | simp only [add_plain] at hx193_0 | simp only [add_at] at hx193_0 | simp only [Addr.add, Nat.zero_add] at hx193_0 | skip); have hn193_0 : (⟨go13, 0, none⟩ : Addr).block ≠ gb191 := Kd.own_blk (Kd.R_ne HO_11.out BK191.out (by decide)); have hn193_1 : (⟨go13, 0, none⟩ : Addr).block ≠ gb191 := Kd.own_blk (Kd.R_ne HO_11.out BK191.out (by decide)); replace hx193_0 := (cell_far (p := ⟨gb191, 0, none⟩) (by first | (rw [add_block]; exact hn193_0) | (show (Addr.add _ _).block ≠ _; rw [add_block]; exact hn193_0) | exact hn193_0) (.int .i64 ((rd_T40 l0_1 x17_4).f0))).trans hx193_0; replace hx193_0 := (cell_far (p := ⟨gb191, 1, none⟩) (by first | (rw [add_block]; exact hn193_1) | (show (Addr.add _ _).block ≠ _; rw [add_block]; exact hn193_1) | exact hn193_1) (.int .i64 ((rd_T40 l0_1 x17_4).f1))).trans hx193_0; (try have hy193_0 := fun (n_ : Nat) => (show ((((w82.drewN n_).setCell ⟨gb191, 0, none⟩ (.int .i64 ((rd_T40 l0_1 x17_4).f0))).setCell ⟨gb191, 1, none⟩ (.int .i64 ((rd_T40 l0_1 x17_4).f1)))).cell? _ = some _ from hx193_0)); clear hn193_0 hn193_1; replace p193 := eq_true p193; replace q193 := eq_true q193; have p194 : 0 ≤ (((rd_T40 l0_1 x17_4).f0) : Int) := of_decide_eq_true (by first | (with_reducible assumption) | assumption); have q194 : ((rd_T40 l0_1 x17_4).f0) < (x11_2.length : Int) := of_decide_eq_true (by first | (with_reducible assumption) | assumption); obtain ⟨ad194, e194, hx194_0⟩ := Kd.at_int (Kd.R_reads' HO_11.out).2.2 ((rd_T40 l0_1 x17_4).f0) p194 q194; obtain rfl : (⟨go13, 0, none⟩ : Addr) = ad194 := (by injection e194); (first | simp only [add_plain] at hx194_0 | simp only [add_at] at hx194_0 | simp only [Addr.add, Nat.zero_add] at hx194_0 | skip); have hn194_0 : (⟨go13, 0, none⟩ : Addr).block ≠ gb191 := Kd.own_blk (Kd.R_ne HO_11.out BK191.out (by decide)); have hn194_1 : (⟨go13, 0, none⟩ : Addr).block ≠ gb191 := Kd.own_blk (Kd.R_ne HO_11.out BK191.out (by decide)); replace hx194_0 := (cell_far (p := ⟨gb191, 0, none⟩) (by first | (rw [add_block]; exact hn194_0) | (show (Addr.add _ _).block ≠ _; rw [add_block]; exact hn194_0) | exact hn194_0) (.int .i64 ((rd_T40 l0_1 x17_4).f0))).trans hx194_0; replace hx194_0 := (cell_far (p := ⟨gb191, 1, none⟩) (by first | (rw [add_block]; exact hn194_1) | (show (Addr.add _ _).block ≠ _; rw [add_block]; exact hn194_1) | exact hn194_1) (.int .i64 ((rd_T40 l0_1 x17_4).f1))).trans hx194_0; (try have hy194_0 := fun (n_ : Nat) => (show ((((w82.drewN n_).setCell ⟨gb191, 0, none⟩ (.int .i64 ((rd_T40 l0_1 x17_4).f0))).setCell ⟨gb191, 1, none⟩ (.int .i64 ((rd_T40 l0_1 x17_4).f1)))).cell? _ = some _ from hx194_0)); clear hn194_0 hn194_1; replace p194 := eq_true p194; replace q194 := eq_true q194; have p195 : 0 ≤ (x4_4 : Int) := of_decide_eq_true (by first | (with_reducible assumption) | assumption); have q195 : x4_4 < (x11_2.length : Int) := of_decide_eq_true (by first | (with_reducible assumption) | assumption); obtain ⟨ad195, e195, hx195_0⟩ := Kd.at_int (Kd.R_reads' HO_11.out).2.2 x4_4 p195 q195; obtain rfl : (⟨go13, 0, none⟩ : Addr) = ad195 := (by injection e195); (first | simp only [add_plain] at hx195_0 | simp only [add_at] at hx195_0 | simp only [Addr.add, Nat.zero_add] at hx195_0 | skip); have hn195_0 : (⟨go13, 0, none⟩ : Addr).block ≠ gb191 := Kd.own_blk (Kd.R_ne HO_11.out BK191.out (by decide)); have hn195_1 : (⟨go13, 0, none⟩ : Addr).block ≠ gb191 := Kd.own_blk (Kd.R_ne HO_11.out BK191.out (by decide)); replace hx195_0 := (cell_far (p := ⟨gb191, 0, none⟩) (by first | (rw [add_block]; exact hn195_0) | (show (Addr.add _ _).block ≠ _; rw [add_block]; exact hn195_0) | exact hn195_0) (.int .i64 ((rd_T40 l0_1 x17_4).f0))).trans hx195_0; replace hx195_0 := (cell_far (p := ⟨gb191, 1, none⟩) (by first | (rw [add_block]; exact hn195_1) | (show (Addr.add _ _).block ≠ _; rw [add_block]; exact hn195_1) | exact hn195_1) (.int .i64 ((rd_T40 l0_1 x17_4).f1))).trans hx195_0; (try have hy195_0 := fun (n_ : Nat) => (show ((((w82.drewN n_).setCell ⟨gb191, 0, none⟩ (.int .i64 ((rd_T40 l0_1 x17_4).f0))).setCell ⟨gb191, 1, none⟩ (.int .i64 ((rd_T40 l0_1 x17_4).f1)))).cell? _ = some _ from hx195_0)); clear hn195_0 hn195_1; replace p195 := eq_true p195; replace q195 := eq_true q195; have p196 : 0 ≤ (((rd_T40 l0_1 x17_4).f0) : Int) := of_decide_eq_true (by first | (with_reducible assumption) | assumption); have q196 : ((rd_T40 l0_1 x17_4).f0) < (l2.length : Int) := of_decide_eq_true (by first | (with_reducible assumption) | assumption); obtain ⟨ad196, e196, hx196_0⟩ := Kd.at_int HR2.out ((rd_T40 l0_1 x17_4).f0) p196 q196; cases e196; have hn196_0 : ad196.block ≠ gb191 := Nat.ne_of_lt (Nat.lt_of_lt_of_le (by have := World.block_lt_of_cell? _ _ hx196_0; first | rwa [add_block] at this | exact this) GW191.out); have hn196_1 : ad196.block ≠ gb191 := Nat.ne_of_lt (Nat.lt_of_lt_of_le (by have := World.block_lt_of_cell? _ _ hx196_0; first | rwa [add_block] at this | exact this) GW191.out); replace hx196_0 := (HB.out.cell (World.block_lt_of_cell? w _ hx196_0)).trans hx196_0; replace hx196_0 := (cell_far (p := ⟨gb191, 0, none⟩) (by first | (rw [add_block]; exact hn196_0) | (show (Addr.add _ _).block ≠ _; rw [add_block]; exact hn196_0) | exact hn196_0) (.int .i64 ((rd_T40 l0_1 x17_4).f0))).trans hx196_0; replace hx196_0 := (cell_far (p := ⟨gb191, 1, none⟩) (by first | (rw [add_block]; exact hn196_1) | (show (Addr.add _ _).block ≠ _; rw [add_block]; exact hn196_1) | exact hn196_1) (.int .i64 ((rd_T40 l0_1 x17_4).f1))).trans hx196_0; (try have hy196_0 := fun (n_ : Nat) => (show ((((w82.drewN n_).setCell ⟨gb191, 0, none⟩ (.int .i64 ((rd_T40 l0_1 x17_4).f0))).setCell ⟨gb191, 1, none⟩ (.int .i64 ((rd_T40 l0_1 x17_4).f1)))).cell? _ = some _ from hx196_0)); clear hn196_0 hn196_1; replace p196 := eq_true p196; replace q196 := eq_true q196; have p197 : 0 ≤ (x17_4 : Int) := of_decide_eq_true (by first | (with_reducible assumption) | assumption); have q197 : x17_4 < (l1.length : Int) := of_decide_eq_true (by first | (with_reducible assumption) | assumption); obtain ⟨ad197, e197, hx197_0⟩ := Kd.at_int HR1.out x17_4 p197 q197; obtain rfl : ad192 = ad197 := (by injection e197); have hn197_0 : ad192.block ≠ gb191 := Nat.ne_of_lt (Nat.lt_of_lt_of_le (by have := World.block_lt_of_cell? _ _ hx197_0; first | rwa [add_block] at this | exact this) GW191.out); have hn197_1 : ad192.block ≠ gb191 := Nat.ne_of_lt (Nat.lt_of_lt_of_le (by have := World.block_lt_of_cell? _ _ hx197_0; first | rwa [add_block] at this | exact this) GW191.out); replace hx197_0 := (HB.out.cell (World.block_lt_of_cell? w _ hx197_0)).trans hx197_0; replace hx197_0 := (cell_far (p := ⟨gb191, 0, none⟩) (by first | (rw [add_block]; exact hn197_0) | (show (Addr.add _ _).block ≠ _; rw [add_block]; exact hn197_0) | exact hn197_0) (.int .i64 ((rd_T40 l0_1 x17_4).f0))).trans hx197_0; replace hx197_0 := (cell_far (p := ⟨gb191, 1, none⟩) (by first | (rw [add_block]; exact hn197_1) | (show (Addr.add _ _).block ≠ _; rw [add_block]; exact hn197_1) | exact hn197_1) (.int .i64 ((rd_T40 l0_1 x17_4).f1))).trans hx197_0; (try have hy197_0 := fun (n_ : Nat) => (show ((((w82.drewN n_).setCell ⟨gb191, 0, none⟩ (.int .i64 ((rd_T40 l0_1 x17_4).f0))).setCell ⟨gb191, 1, none⟩ (.int .i64 ((rd_T40 l0_1 x17_4).f1)))).cell? _ = some _ from hx197_0)); clear hn197_0 hn197_1; replace p197 := eq_true p197; replace q197 := eq_true q197; have p198 : 0 ≤ (x4_4 : Int) := of_decide_eq_true (by first | (with_reducible assumption) | assumption); have q198 : x4_4 < (l2.length : Int) := of_decide_eq_true (by first | (with_reducible assumption) | assumption); obtain ⟨ad198, e198, hx198_0⟩ := Kd.at_int HR2.out x4_4 p198 q198; obtain rfl : ad196 = ad198 := (by injection e198); have hn198_0 : ad196.block ≠ gb191 := Nat.ne_of_lt (Nat.lt_of_lt_of_le (by have := World.block_lt_of_cell? _ _ hx198_0; first | rwa [add_block] at this | exact this) GW191.out); have hn198_1 : ad196.block ≠ gb191 := Nat.ne_of_lt (Nat.lt_of_lt_of_le (by have := World.block_lt_of_cell? _ _ hx198_0; first | rwa [add_block] at this | exact this) GW191.out); replace hx198_0 := (HB.out.cell (World.block_lt_of_cell? w _ hx198_0)).trans hx198_0; replace hx198_0 := (cell_far (p := ⟨gb191, 0, none⟩) (by first | (rw [add_block]; exact hn198_0) | (show (Addr.add _ _).block ≠ _; rw [add_block]; exact hn198_0) | exact hn198_0) (.int .i64 ((rd_T40 l0_1 x17_4).f0))).trans hx198_0; replace hx198_0 := (cell_far (p := ⟨gb191, 1, none⟩) (by first | (rw [add_block]; exact hn198_1) | (show (Addr.add _ _).block ≠ _; rw [add_block]; exact hn198_1) | exact hn198_1) (.int .i64 ((rd_T40 l0_1 x17_4).f1))).trans hx198_0; (try have hy198_0 := fun (n_ : Nat) => (show ((((w82.drewN n_).setCell ⟨gb191, 0, none⟩ (.int .i64 ((rd_T40 l0_1 x17_4).f0))).setCell ⟨gb191, 1, none⟩ (.int .i64 ((rd_T40 l0_1 x17_4).f1)))).cell? _ = some _ from hx198_0)); clear hn198_0 hn198_1; replace p198 := eq_true p198; replace q198 := eq_true q198) | ((with_reducible refine gate_builtin (b := .append) (xs := #[.tmp 161, .tmp 163]) rfl ?_); at_builtin; refine Kd.R_append (Kd.int .i64) (w0 := w) w.heap.size rfl (.tmp 161) (.tmp 163) 25 3 (.int .i64 0) 8 rfl Try.underlying25 info3 rfl (by decide) (by omega) u16 x16_4 x17_4 [.int .i64 x17_4] (fun k_ => some k_ ≠ (.slice (some ⟨go13, 0, none⟩) x11_2.length co13 : Value).ownBlock) (fun _ => False) rfl (by first | (go_simp; done) | (go_simp; rfl)) ?aP (fun _ hk => hk.elim) ?aF ?aO ?aB ?aS ?aL ?_; (case aP => exact rfl); (case aB => exact (by repeat (first | (with_reducible first | exact HB.out | apply below_alloc | apply pw_below_drewN | apply below_drew1 | refine below_set ?_ GE176.out | refine below_set ?_ GE191.out) | exact HB.out))); (case aF => exact (fun k_ hk => Kd.fresh' (Kd.R_lt (by (with_reducible repeat (first | apply Kd.R_alloc | apply Kd.R_drewN | apply Kd.R_drew)); exact (Kd.R_mono (Kd.R_far (p := ⟨gb191, 1, none⟩) (Kd.R_far (p := ⟨gb191, 0, none⟩) (Kd.R_types HO_11.out BK191.out (by decide)) (fun _ hk => hk.2) (.int .i64 ((rd_T40 l0_1 x17_4).f0))) (fun _ hk => hk.2) (.int .i64 ((rd_T40 l0_1 x17_4).f1))) (fun _ h_ => h_.1)))) k_ hk)); (case aO => exact (by (with_reducible repeat (first | apply Kd.R_alloc | apply Kd.R_drewN | apply Kd.R_drew)); exact Kd.R_mono (Kd.R_far (p := ⟨gb191, 1, none⟩) (Kd.R_far (p := ⟨gb191, 0, none⟩) (Kd.R_types HO_16.out BK191.out (by decide)) (fun _ hk => hk.2) (.int .i64 ((rd_T40 l0_1 x17_4).f0))) (fun _ hk => hk.2) (.int .i64 ((rd_T40 l0_1 x17_4).f1))) (fun _ hk => hk.1))); (case aS => exact (below_size (by repeat (first | (with_reducible first | exact HB.out | apply below_alloc | apply pw_below_drewN | apply below_drew1 | refine below_set ?_ GE176.out | refine below_set ?_ GE191.out) | exact HB.out)))); (case aL => have := LMc80.out; omega); intro v200 w85 ho hb hg hat; rw [← Ny199.out] at ho; have n0_ := Aside0.mk (Kd.R_after (ok := (fun _ => True)) (by (with_reducible repeat (first | apply Kd.R_alloc | apply Kd.R_drewN | apply Kd.R_drew)); exact Kd.R_mono (Kd.R_far (p := ⟨gb191, 1, none⟩) (Kd.R_far (p := ⟨gb191, 0, none⟩) (Kd.R_types HO_11.out BK191.out (by decide)) (fun _ hk => hk.2) (.int .i64 ((rd_T40 l0_1 x17_4).f0))) (fun _ hk => hk.2) (.int .i64 ((rd_T40 l0_1 x17_4).f1))) (fun _ hk => ⟨trivial, hk.1⟩)) hg hat); have n1_ := Aside0.mk (blk_grown (g := gb176) (o := .cells #[.int .i64 a0_0, .slice (some ad190) l0_1.length c0_1] 24 (0, 0)) (by (iterate 2 ((with_reducible repeat first | apply blk_drewN | apply blk_drew | apply blk_alloc); refine blk_far ?_ NB176_191.out _)); (with_reducible repeat first | apply blk_drewN | apply blk_drew | apply blk_alloc); exact BK176.out) hg (Kd.R_ne HO_16.out BK176.out (by decide))); have n2_ := Aside0.mk (blk_grown (g := gb191) (o := .cells #[.int .i64 ((rd_T40 l0_1 x17_4).f0), .int .i64 ((rd_T40 l0_1 x17_4).f1)] 40 (0, 0)) (by (with_reducible repeat first | apply blk_drewN | apply blk_drew | apply blk_alloc); refine blk_put (cs := #[.int .i64 ((rd_T40 l0_1 x17_4).f0), .int .i64 0]) ?_ 1 _ rfl; (with_reducible repeat first | apply blk_drewN | apply blk_drew | apply blk_alloc); refine blk_put (cs := #[.int .i64 0, .int .i64 0]) ?_ 0 _ rfl; (with_reducible repeat first | apply blk_drewN | apply blk_drew | apply blk_alloc); exact BK191.out) hg (Kd.R_ne HO_16.out BK191.out (by decide))); have n3_ := Aside0.mk (hb); have n4_ := Aside0.mk (ho); clear HO_11 BK176 BK191 HB HO_16; have HO_11 := n0_; have BK176 := n1_; have BK191 := n2_; have HB := n3_; have HO201 := n4_; clear n0_ n1_ n2_ n3_ n4_ ho hb hg hat; have hcz86_0 : w85.cell? ⟨gb191, 0, none⟩ = some (.int .i64 ((rd_T40 l0_1 x17_4).f0)) := (blk_cell BK191.out 0).trans rfl; have hcz86_1 : w85.cell? ⟨gb191, 1, none⟩ = some (.int .i64 ((rd_T40 l0_1 x17_4).f1)) := (blk_cell BK191.out 1).trans rfl; have hfz86_0 := blk_frozen BK191.out 0; have hfz86_1 := blk_frozen BK191.out 1)); try go_quiet (fail))
                             go_roundg k4
                             case measure => have := HK1.out; have := HK2.out; have := HK3.out; have := HK4.out; omega
                             case rel => exact ⟨((rd_T40 l0_1 x17_4).f0), (y199), (by first | rfl | (simp; done) | (simp [*]; done)), H', ⟨by have := HK1.out; have := HK2.out; have := HK3.out; have := HK4.out; omega⟩, ⟨by (try simp only [hl11_2]); (with_reducible repeat (first | apply Kd.R_alloc | apply Kd.R_drewN | apply Kd.R_drew)); exact Kd.R_mono HO_11.out (fun _ hk => hk.2)⟩, ⟨by (try simp only [hl11_2]); (with_reducible repeat (first | apply Kd.R_alloc | apply Kd.R_drewN | apply Kd.R_drew)); exact HO201.out⟩, ⟨by (try simp only [hl11_2]); (with_reducible repeat first | apply blk_drewN | apply blk_drew | apply blk_alloc); exact BK176.out⟩, ⟨by repeat (first | (with_reducible first | exact HB.out | apply below_alloc | apply pw_below_drewN | apply below_drew1 | refine below_set ?_ GE176.out | refine below_set ?_ GE191.out) | exact HB.out)⟩⟩
                            ·rw [if_neg c80] at H
                             exact absurd H (by simp)
                           ·rw [if_neg c79] at H
                            have c79b0 : ((wrap64 ((rd l2 ((rd_T40 l0_1 x17_4).f0)) + (rd l1 x17_4))) == (rd l2 x4_4)) = false := beq_eq_false_iff_ne.mpr c79
                            have c79b1 : ((wrap64 ((rd l2 ((rd_T40 l0_1 x17_4).f0)) + (rd l1 x17_4))) != (rd l2 x4_4)) = true := bne_iff_ne.mpr c79
                            have H' := Aside0.mk H
                            clear H
                            have hcz87_0 : wr.cell? ⟨gb176, 0, none⟩ = some (.int .i64 a0_0) := (blk_cell BK176.out 0).trans rfl
                            have hcz87_1 : wr.cell? ⟨gb176, 1, none⟩ = some (.slice A0_1 l0_1.length c0_1) := (blk_cell BK176.out 1).trans rfl
                            have hfz87_0 := blk_frozen BK176.out 0
                            have hfz87_1 := blk_frozen BK176.out 1
                            have p190 : 0 ≤ (x17_4 : Int) := of_decide_eq_true (by first | (with_reducible assumption) | assumption)
                            have q190 : x17_4 < (l0_1.length : Int) := of_decide_eq_true (by first | (with_reducible assumption) | assumption)
                            obtain ⟨ad190, e190, hx190_0, hx190_1⟩ := at_T40 HR0_1.out x17_4 p190 q190
                            cases e190
                            replace hx190_0 := (HB.out.cell (World.block_lt_of_cell? w _ hx190_0)).trans hx190_0
                            replace hx190_1 := (HB.out.cell (World.block_lt_of_cell? w _ hx190_1)).trans hx190_1
                            replace p190 := eq_true p190
                            replace q190 := eq_true q190
                            iterate 3 (go_wp2_with (first | ((with_reducible refine gate_dst (N := 18) rfl ?_); refine box_event ?hg (N := 18) ?hd (cs := #[.int .i64 0, .int .i64 0]) (t := 40) ?hr ?_; (case hd => rfl); (case hg => rfl); (case hr => first | (go_simp; done) | (go_simp; rfl)); intro gb191 hg w88 hbox hb; have n0_ := Aside0.mk (Kd.R_below (by (with_reducible repeat (first | apply Kd.R_alloc | apply Kd.R_drewN | apply Kd.R_drew)); exact HO_11.out) hb); have n1_ := Aside0.mk (Kd.R_below (by (with_reducible repeat (first | apply Kd.R_alloc | apply Kd.R_drewN | apply Kd.R_drew)); exact HO_16.out) hb); have n2_ := Aside0.mk (blk_below (by (with_reducible repeat first | apply blk_drewN | apply blk_drew | apply blk_alloc); exact BK176.out) hb); have n3_ := Aside0.mk (below_step (by repeat (first | (with_reducible first | exact HB.out | apply below_alloc | apply pw_below_drewN | apply below_drew1 | refine below_set ?_ GE176.out) | exact HB.out)) hb); have n4_ := Aside0.mk (hbox); have n5_ := Aside0.mk ((by rw [hg]; exact (below_size (by repeat (first | (with_reducible first | exact HB.out | apply below_alloc | apply pw_below_drewN | apply below_drew1 | refine below_set ?_ GE176.out) | exact HB.out))) : w.heap.size ≤ gb191)); have n6_ := n5_; have n7_ := Aside0.mk ((by rw [hg]; exact Nat.ne_of_lt (blk_lt (by (with_reducible repeat first | apply blk_drewN | apply blk_drew | apply blk_alloc); exact BK176.out)) : gb176 ≠ gb191)); have n8_ : Aside0 (gb191 ≠ gb176) := ⟨Ne.symm n7_.out⟩; clear HO_11 HO_16 BK176 HB; have HO_11 := n0_; have HO_16 := n1_; have BK176 := n2_; have HB := n3_; have BK191 := n4_; have GW191 := n5_; have GE191 := n6_; have NB176_191 := n7_; have NB191_176 := n8_; clear n0_ n1_ n2_ n3_ n4_ n5_ n6_ n7_ n8_ hb hbox hg; have hnb89 := NB191_176.out; have hnc89 := NB176_191.out; have hcz90_0 : w88.cell? ⟨gb191, 0, none⟩ = some (.int .i64 0) := (blk_cell BK191.out 0).trans rfl; have hcz90_1 : w88.cell? ⟨gb191, 1, none⟩ = some (.int .i64 0) := (blk_cell BK191.out 1).trans rfl; have hfz90_0 := blk_frozen BK191.out 0; have hfz90_1 := blk_frozen BK191.out 1; have p192 : 0 ≤ (x17_4 : Int) := of_decide_eq_true (by first | (with_reducible assumption) | assumption); have q192 : x17_4 < (l1.length : Int) := of_decide_eq_true (by first | (with_reducible assumption) | assumption); obtain ⟨ad192, e192, hx192_0⟩ := Kd.at_int HR1.out x17_4 p192 q192; cases e192; have hn192_0 : ad192.block ≠ gb191 := Nat.ne_of_lt (Nat.lt_of_lt_of_le (by have := World.block_lt_of_cell? _ _ hx192_0; first | rwa [add_block] at this | exact this) GW191.out); have hn192_1 : ad192.block ≠ gb191 := Nat.ne_of_lt (Nat.lt_of_lt_of_le (by have := World.block_lt_of_cell? _ _ hx192_0; first | rwa [add_block] at this | exact this) GW191.out); replace hx192_0 := (HB.out.cell (World.block_lt_of_cell? w _ hx192_0)).trans hx192_0; replace hx192_0 := (cell_far (p := ⟨gb191, 0, none⟩) (by first | (rw [add_block]; exact hn192_0) | (show (Addr.add _ _).block ≠ _; rw [add_block]; exact hn192_0) | exact hn192_0) (.int .i64 ((rd_T40 l0_1 x17_4).f0))).trans hx192_0; replace hx192_0 := (cell_far (p := ⟨gb191, 1, none⟩) (by first | (rw [add_block]; exact hn192_1) | (show (Addr.add _ _).block ≠ _; rw [add_block]; exact hn192_1) | exact hn192_1) (.int .i64 ((rd_T40 l0_1 x17_4).f1))).trans hx192_0; (try have hy192_0 := fun (n_ : Nat) => (show ((((w88.drewN n_).setCell ⟨gb191, 0, none⟩ (.int .i64 ((rd_T40 l0_1 x17_4).f0))).setCell ⟨gb191, 1, none⟩ (.int .i64 ((rd_T40 l0_1 x17_4).f1)))).cell? _ = some _ from hx192_0)); clear hn192_0 hn192_1; replace p192 := eq_true p192; replace q192 := eq_true q192; have p193 : 0 ≤ (((rd_T40 l0_1 x17_4).f0) : Int) := of_decide_eq_true (by first | (with_reducible assumption) | assumption); have q193 : ((rd_T40 l0_1 x17_4).f0) < (x11_2.length : Int) := of_decide_eq_true (by first | (with_reducible assumption) | assumption); obtain ⟨ad193, e193, hx193_0⟩ := Kd.at_int (Kd.R_reads' HO_11.out).2.2 ((rd_T40 l0_1 x17_4).f0) p193 q193; obtain rfl : (⟨go13, 0, none⟩ : Addr) = ad193 := (by injection e193); (first | simp only [add_plain] at hx193_0 | simp only [add_at] at hx193_0 | simp only [Addr.add, Nat.zero_add] at hx193_0 | skip); have hn193_0 : (⟨go13, 0, none⟩ : Addr).block ≠ gb191 := Kd.own_blk (Kd.R_ne HO_11.out BK191.out (by decide)); have hn193_1 : (⟨go13, 0, none⟩ : Addr).block ≠ gb191 := Kd.own_blk (Kd.R_ne HO_11.out BK191.out (by decide)); replace hx193_0 := (cell_far (p := ⟨gb191, 0, none⟩) (by first | (rw [add_block]; exact hn193_0) | (show (Addr.add _ _).block ≠ _; rw [add_block]; exact hn193_0) | exact hn193_0) (.int .i64 ((rd_T40 l0_1 x17_4).f0))).trans hx193_0; replace hx193_0 := (cell_far (p := ⟨gb191, 1, none⟩) (by first | (rw [add_block]; exact hn193_1) | (show (Addr.add _ _).block ≠ _; rw [add_block]; exact hn193_1) | exact hn193_1) (.int .i64 ((rd_T40 l0_1 x17_4).f1))).trans hx193_0; (try have hy193_0 := fun (n_ : Nat) => (show ((((w88.drewN n_).setCell ⟨gb191, 0, none⟩ (.int .i64 ((rd_T40 l0_1 x17_4).f0))).setCell ⟨gb191, 1, none⟩ (.int .i64 ((rd_T40 l0_1 x17_4).f1)))).cell? _ = some _ from hx193_0)); clear hn193_0 hn193_1; replace p193 := eq_true p193; replace q193 := eq_true q193; have p194 : 0 ≤ (((rd_T40 l0_1 x17_4).f0) : Int) := of_decide_eq_true (by first | (with_reducible assumption) | assumption); have q194 : ((rd_T40 l0_1 x17_4).f0) < (x11_2.length : Int) := of_decide_eq_true (by first | (with_reducible assumption) | assumption); obtain ⟨ad194, e194, hx194_0⟩ := Kd.at_int (Kd.R_reads' HO_11.out).2.2 ((rd_T40 l0_1 x17_4).f0) p194 q194; obtain rfl : (⟨go13, 0, none⟩ : Addr) = ad194 := (by injection e194); (first | simp only [add_plain] at hx194_0 | simp only [add_at] at hx194_0 | simp only [Addr.add, Nat.zero_add] at hx194_0 | skip); have hn194_0 : (⟨go13, 0, none⟩ : Addr).block ≠ gb191 := Kd.own_blk (Kd.R_ne HO_11.out BK191.out (by decide)); have hn194_1 : (⟨go13, 0, none⟩ : Addr).block ≠ gb191 := Kd.own_blk (Kd.R_ne HO_11.out BK191.out (by decide)); replace hx194_0 := (cell_far (p := ⟨gb191, 0, none⟩) (by first | (rw [add_block]; exact hn194_0) | (show (Addr.add _ _).block ≠ _; rw [add_block]; exact hn194_0) | exact hn194_0) (.int .i64 ((rd_T40 l0_1 x17_4).f0))).trans hx194_0; replace hx194_0 := (cell_far (p := ⟨gb191, 1, none⟩) (by first | (rw [add_block]; exact hn194_1) | (show (Addr.add _ _).block ≠ _; rw [add_block]; exact hn194_1) | exact hn194_1) (.int .i64 ((rd_T40 l0_1 x17_4).f1))).trans hx194_0; (try have hy194_0 := fun (n_ : Nat) => (show ((((w88.drewN n_).setCell ⟨gb191, 0, none⟩ (.int .i64 ((rd_T40 l0_1 x17_4).f0))).setCell ⟨gb191, 1, none⟩ (.int .i64 ((rd_T40 l0_1 x17_4).f1)))).cell? _ = some _ from hx194_0)); clear hn194_0 hn194_1; replace p194 := eq_true p194; replace q194 := eq_true q194; have p195 : 0 ≤ (x4_4 : Int) := of_decide_eq_true (by first | (with_reducible assumption) | assumption); have q195 : x4_4 < (x11_2.length : Int) := of_decide_eq_true (by first | (with_reducible assumption) | assumption); obtain ⟨ad195, e195, hx195_0⟩ := Kd.at_int (Kd.R_reads' HO_11.out).2.2 x4_4 p195 q195; obtain rfl : (⟨go13, 0, none⟩ : Addr) = ad195 := (by injection e195); (first | simp only [add_plain] at hx195_0 | simp only [add_at] at hx195_0 | simp only [Addr.add, Nat.zero_add] at hx195_0 | skip); have hn195_0 : (⟨go13, 0, none⟩ : Addr).block ≠ gb191 := Kd.own_blk (Kd.R_ne HO_11.out BK191.out (by decide)); have hn195_1 : (⟨go13, 0, none⟩ : Addr).block ≠ gb191 := Kd.own_blk (Kd.R_ne HO_11.out BK191.out (by decide)); replace hx195_0 := (cell_far (p := ⟨gb191, 0, none⟩) (by first | (rw [add_block]; exact hn195_0) | (show (Addr.add _ _).block ≠ _; rw [add_block]; exact hn195_0) | exact hn195_0) (.int .i64 ((rd_T40 l0_1 x17_4).f0))).trans hx195_0; replace hx195_0 := (cell_far (p := ⟨gb191, 1, none⟩) (by first | (rw [add_block]; exact hn195_1) | (show (Addr.add _ _).block ≠ _; rw [add_block]; exact hn195_1) | exact hn195_1) (.int .i64 ((rd_T40 l0_1 x17_4).f1))).trans hx195_0; (try have hy195_0 := fun (n_ : Nat) => (show ((((w88.drewN n_).setCell ⟨gb191, 0, none⟩ (.int .i64 ((rd_T40 l0_1 x17_4).f0))).setCell ⟨gb191, 1, none⟩ (.int .i64 ((rd_T40 l0_1 x17_4).f1)))).cell? _ = some _ from hx195_0)); clear hn195_0 hn195_1; replace p195 := eq_true p195; replace q195 := eq_true q195; have p196 : 0 ≤ (((rd_T40 l0_1 x17_4).f0) : Int) := of_decide_eq_true (by first | (with_reducible assumption) | assumption); have q196 : ((rd_T40 l0_1 x17_4).f0) < (l2.length : Int) := of_decide_eq_true (by first | (with_reducible assumption) | assumption); obtain ⟨ad196, e196, hx196_0⟩ := Kd.at_int HR2.out ((rd_T40 l0_1 x17_4).f0) p196 q196; cases e196; have hn196_0 : ad196.block ≠ gb191 := Nat.ne_of_lt (Nat.lt_of_lt_of_le (by have := World.block_lt_of_cell? _ _ hx196_0; first | rwa [add_block] at this | exact this) GW191.out); have hn196_1 : ad196.block ≠ gb191 := Nat.ne_of_lt (Nat.lt_of_lt_of_le (by have := World.block_lt_of_cell? _ _ hx196_0; first | rwa [add_block] at this | exact this) GW191.out); replace hx196_0 := (HB.out.cell (World.block_lt_of_cell? w _ hx196_0)).trans hx196_0; replace hx196_0 := (cell_far (p := ⟨gb191, 0, none⟩) (by first | (rw [add_block]; exact hn196_0) | (show (Addr.add _ _).block ≠ _; rw [add_block]; exact hn196_0) | exact hn196_0) (.int .i64 ((rd_T40 l0_1 x17_4).f0))).trans hx196_0; replace hx196_0 := (cell_far (p := ⟨gb191, 1, none⟩) (by first | (rw [add_block]; exact hn196_1) | (show (Addr.add _ _).block ≠ _; rw [add_block]; exact hn196_1) | exact hn196_1) (.int .i64 ((rd_T40 l0_1 x17_4).f1))).trans hx196_0; (try have hy196_0 := fun (n_ : Nat) => (show ((((w88.drewN n_).setCell ⟨gb191, 0, none⟩ (.int .i64 ((rd_T40 l0_1 x17_4).f0))).setCell ⟨gb191, 1, none⟩ (.int .i64 ((rd_T40 l0_1 x17_4).f1)))).cell? _ = some _ from hx196_0)); clear hn196_0 hn196_1; replace p196 := eq_true p196; replace q196 := eq_true q196; have p197 : 0 ≤ (x17_4 : Int) := of_decide_eq_true (by first | (with_reducible assumption) | assumption); have q197 : x17_4 < (l1.length : Int) := of_decide_eq_true (by first | (with_reducible assumption) | assumption); obtain ⟨ad197, e197, hx197_0⟩ := Kd.at_int HR1.out x17_4 p197 q197; obtain rfl : ad192 = ad197 := (by injection e197); have hn197_0 : ad192.block ≠ gb191 := Nat.ne_of_lt (Nat.lt_of_lt_of_le (by have := World.block_lt_of_cell? _ _ hx197_0; first | rwa [add_block] at this | exact this) GW191.out); have hn197_1 : ad192.block ≠ gb191 := Nat.ne_of_lt (Nat.lt_of_lt_of_le (by have := World.block_lt_of_cell? _ _ hx197_0; first | rwa [add_block] at this | exact this) GW191.out); replace hx197_0 := (HB.out.cell (World.block_lt_of_cell? w _ hx197_0)).trans hx197_0; replace hx197_0 := (cell_far (p := ⟨gb191, 0, none⟩) (by first | (rw [add_block]; exact hn197_0) | (show (Addr.add _ _).block ≠ _; rw [add_block]; exact hn197_0) | exact hn197_0) (.int .i64 ((rd_T40 l0_1 x17_4).f0))).trans hx197_0; replace hx197_0 := (cell_far (p := ⟨gb191, 1, none⟩) (by first | (rw [add_block]; exact hn197_1) | (show (Addr.add _ _).block ≠ _; rw [add_block]; exact hn197_1) | exact hn197_1) (.int .i64 ((rd_T40 l0_1 x17_4).f1))).trans hx197_0; (try have hy197_0 := fun (n_ : Nat) => (show ((((w88.drewN n_).setCell ⟨gb191, 0, none⟩ (.int .i64 ((rd_T40 l0_1 x17_4).f0))).setCell ⟨gb191, 1, none⟩ (.int .i64 ((rd_T40 l0_1 x17_4).f1)))).cell? _ = some _ from hx197_0)); clear hn197_0 hn197_1; replace p197 := eq_true p197; replace q197 := eq_true q197; have p198 : 0 ≤ (x4_4 : Int) := of_decide_eq_true (by first | (with_reducible assumption) | assumption); have q198 : x4_4 < (l2.length : Int) := of_decide_eq_true (by first | (with_reducible assumption) | assumption); obtain ⟨ad198, e198, hx198_0⟩ := Kd.at_int HR2.out x4_4 p198 q198; obtain rfl : ad196 = ad198 := (by injection e198); have hn198_0 : ad196.block ≠ gb191 := Nat.ne_of_lt (Nat.lt_of_lt_of_le (by have := World.block_lt_of_cell? _ _ hx198_0; first | rwa [add_block] at this | exact this) GW191.out); have hn198_1 : ad196.block ≠ gb191 := Nat.ne_of_lt (Nat.lt_of_lt_of_le (by have := World.block_lt_of_cell? _ _ hx198_0; first | rwa [add_block] at this | exact this) GW191.out); replace hx198_0 := (HB.out.cell (World.block_lt_of_cell? w _ hx198_0)).trans hx198_0; replace hx198_0 := (cell_far (p := ⟨gb191, 0, none⟩) (by first | (rw [add_block]; exact hn198_0) | (show (Addr.add _ _).block ≠ _; rw [add_block]; exact hn198_0) | exact hn198_0) (.int .i64 ((rd_T40 l0_1 x17_4).f0))).trans hx198_0; replace hx198_0 := (cell_far (p := ⟨gb191, 1, none⟩) (by first | (rw [add_block]; exact hn198_1) | (show (Addr.add _ _).block ≠ _; rw [add_block]; exact hn198_1) | exact hn198_1) (.int .i64 ((rd_T40 l0_1 x17_4).f1))).trans hx198_0; (try have hy198_0 := fun (n_ : Nat) => (show ((((w88.drewN n_).setCell ⟨gb191, 0, none⟩ (.int .i64 ((rd_T40 l0_1 x17_4).f0))).setCell ⟨gb191, 1, none⟩ (.int .i64 ((rd_T40 l0_1 x17_4).f1)))).cell? _ = some _ from hx198_0)); clear hn198_0 hn198_1; replace p198 := eq_true p198; replace q198 := eq_true q198)); try go_quiet (fail))
                            go_roundg k4
                            case measure => have := HK1.out; have := HK2.out; have := HK3.out; have := HK4.out; omega
                            case rel => exact ⟨(x4_4), (x16_4), (wrap64 (x17_4 + 1)), (by first | rfl | (simp; done) | (simp [*]; done)), (by first | rfl | (simp; done) | (simp [*]; done)), H', ⟨by have := HK1.out; have := HK2.out; have := HK3.out; have := HK4.out; omega⟩, ⟨by (try simp only [hl11_2]); (with_reducible repeat (first | apply Kd.R_alloc | apply Kd.R_drewN | apply Kd.R_drew)); exact Kd.R_mono (Kd.R_far (p := ⟨gb191, 1, none⟩) (Kd.R_far (p := ⟨gb191, 0, none⟩) (Kd.R_types HO_11.out BK191.out (by decide)) (fun _ hk => hk.2) (.int .i64 ((rd_T40 l0_1 x17_4).f0))) (fun _ hk => hk.2) (.int .i64 ((rd_T40 l0_1 x17_4).f1))) (fun _ hk => hk.1)⟩, ⟨by (try simp only [hl11_2]); (with_reducible repeat (first | apply Kd.R_alloc | apply Kd.R_drewN | apply Kd.R_drew)); exact Kd.R_mono (Kd.R_far (p := ⟨gb191, 1, none⟩) (Kd.R_far (p := ⟨gb191, 0, none⟩) (Kd.R_types HO_16.out BK191.out (by decide)) (fun _ hk => hk.2) (.int .i64 ((rd_T40 l0_1 x17_4).f0))) (fun _ hk => hk.2) (.int .i64 ((rd_T40 l0_1 x17_4).f1))) (fun _ hk => hk.1)⟩, ⟨by (try simp only [hl11_2]); (iterate 2 ((with_reducible repeat first | apply blk_drewN | apply blk_drew | apply blk_alloc); refine blk_far ?_ NB176_191.out _)); (with_reducible repeat first | apply blk_drewN | apply blk_drew | apply blk_alloc); exact BK176.out⟩, ⟨by repeat (first | (with_reducible first | exact HB.out | apply below_alloc | apply pw_below_drewN | apply below_drew1 | refine below_set ?_ GE176.out | refine below_set ?_ GE191.out) | exact HB.out)⟩⟩
                          ·rw [if_neg c78] at H
                           exact absurd H (by simp)
                         ·rw [if_neg c77] at H
                          exact absurd H (by simp)
                        ·rw [if_neg c76] at H
                         have c76b0 : ((wrap64 ((rd x11_2 ((rd_T40 l0_1 x17_4).f0)) + 1)) == (rd x11_2 x4_4)) = false := beq_eq_false_iff_ne.mpr c76
                         have c76b1 : ((wrap64 ((rd x11_2 ((rd_T40 l0_1 x17_4).f0)) + 1)) != (rd x11_2 x4_4)) = true := bne_iff_ne.mpr c76
                         have H' := Aside0.mk H
                         clear H
                         have hcz91_0 : wr.cell? ⟨gb176, 0, none⟩ = some (.int .i64 a0_0) := (blk_cell BK176.out 0).trans rfl
                         have hcz91_1 : wr.cell? ⟨gb176, 1, none⟩ = some (.slice A0_1 l0_1.length c0_1) := (blk_cell BK176.out 1).trans rfl
                         have hfz91_0 := blk_frozen BK176.out 0
                         have hfz91_1 := blk_frozen BK176.out 1
                         have p190 : 0 ≤ (x17_4 : Int) := of_decide_eq_true (by first | (with_reducible assumption) | assumption)
                         have q190 : x17_4 < (l0_1.length : Int) := of_decide_eq_true (by first | (with_reducible assumption) | assumption)
                         obtain ⟨ad190, e190, hx190_0, hx190_1⟩ := at_T40 HR0_1.out x17_4 p190 q190
                         cases e190
                         replace hx190_0 := (HB.out.cell (World.block_lt_of_cell? w _ hx190_0)).trans hx190_0
                         replace hx190_1 := (HB.out.cell (World.block_lt_of_cell? w _ hx190_1)).trans hx190_1
                         replace p190 := eq_true p190
                         replace q190 := eq_true q190
                         iterate 3 (go_wp2_with (first | ((with_reducible refine gate_dst (N := 18) rfl ?_); refine box_event ?hg (N := 18) ?hd (cs := #[.int .i64 0, .int .i64 0]) (t := 40) ?hr ?_; (case hd => rfl); (case hg => rfl); (case hr => first | (go_simp; done) | (go_simp; rfl)); intro gb191 hg w92 hbox hb; have n0_ := Aside0.mk (Kd.R_below (by (with_reducible repeat (first | apply Kd.R_alloc | apply Kd.R_drewN | apply Kd.R_drew)); exact HO_11.out) hb); have n1_ := Aside0.mk (Kd.R_below (by (with_reducible repeat (first | apply Kd.R_alloc | apply Kd.R_drewN | apply Kd.R_drew)); exact HO_16.out) hb); have n2_ := Aside0.mk (blk_below (by (with_reducible repeat first | apply blk_drewN | apply blk_drew | apply blk_alloc); exact BK176.out) hb); have n3_ := Aside0.mk (below_step (by repeat (first | (with_reducible first | exact HB.out | apply below_alloc | apply pw_below_drewN | apply below_drew1 | refine below_set ?_ GE176.out) | exact HB.out)) hb); have n4_ := Aside0.mk (hbox); have n5_ := Aside0.mk ((by rw [hg]; exact (below_size (by repeat (first | (with_reducible first | exact HB.out | apply below_alloc | apply pw_below_drewN | apply below_drew1 | refine below_set ?_ GE176.out) | exact HB.out))) : w.heap.size ≤ gb191)); have n6_ := n5_; have n7_ := Aside0.mk ((by rw [hg]; exact Nat.ne_of_lt (blk_lt (by (with_reducible repeat first | apply blk_drewN | apply blk_drew | apply blk_alloc); exact BK176.out)) : gb176 ≠ gb191)); have n8_ : Aside0 (gb191 ≠ gb176) := ⟨Ne.symm n7_.out⟩; clear HO_11 HO_16 BK176 HB; have HO_11 := n0_; have HO_16 := n1_; have BK176 := n2_; have HB := n3_; have BK191 := n4_; have GW191 := n5_; have GE191 := n6_; have NB176_191 := n7_; have NB191_176 := n8_; clear n0_ n1_ n2_ n3_ n4_ n5_ n6_ n7_ n8_ hb hbox hg; have hnb93 := NB191_176.out; have hnc93 := NB176_191.out; have hcz94_0 : w92.cell? ⟨gb191, 0, none⟩ = some (.int .i64 0) := (blk_cell BK191.out 0).trans rfl; have hcz94_1 : w92.cell? ⟨gb191, 1, none⟩ = some (.int .i64 0) := (blk_cell BK191.out 1).trans rfl; have hfz94_0 := blk_frozen BK191.out 0; have hfz94_1 := blk_frozen BK191.out 1; have p192 : 0 ≤ (x17_4 : Int) := of_decide_eq_true (by first | (with_reducible assumption) | assumption); have q192 : x17_4 < (l1.length : Int) := of_decide_eq_true (by first | (with_reducible assumption) | assumption); obtain ⟨ad192, e192, hx192_0⟩ := Kd.at_int HR1.out x17_4 p192 q192; cases e192; have hn192_0 : ad192.block ≠ gb191 := Nat.ne_of_lt (Nat.lt_of_lt_of_le (by have := World.block_lt_of_cell? _ _ hx192_0; first | rwa [add_block] at this | exact this) GW191.out); have hn192_1 : ad192.block ≠ gb191 := Nat.ne_of_lt (Nat.lt_of_lt_of_le (by have := World.block_lt_of_cell? _ _ hx192_0; first | rwa [add_block] at this | exact this) GW191.out); replace hx192_0 := (HB.out.cell (World.block_lt_of_cell? w _ hx192_0)).trans hx192_0; replace hx192_0 := (cell_far (p := ⟨gb191, 0, none⟩) (by first | (rw [add_block]; exact hn192_0) | (show (Addr.add _ _).block ≠ _; rw [add_block]; exact hn192_0) | exact hn192_0) (.int .i64 ((rd_T40 l0_1 x17_4).f0))).trans hx192_0; replace hx192_0 := (cell_far (p := ⟨gb191, 1, none⟩) (by first | (rw [add_block]; exact hn192_1) | (show (Addr.add _ _).block ≠ _; rw [add_block]; exact hn192_1) | exact hn192_1) (.int .i64 ((rd_T40 l0_1 x17_4).f1))).trans hx192_0; (try have hy192_0 := fun (n_ : Nat) => (show ((((w92.drewN n_).setCell ⟨gb191, 0, none⟩ (.int .i64 ((rd_T40 l0_1 x17_4).f0))).setCell ⟨gb191, 1, none⟩ (.int .i64 ((rd_T40 l0_1 x17_4).f1)))).cell? _ = some _ from hx192_0)); clear hn192_0 hn192_1; replace p192 := eq_true p192; replace q192 := eq_true q192; have p193 : 0 ≤ (((rd_T40 l0_1 x17_4).f0) : Int) := of_decide_eq_true (by first | (with_reducible assumption) | assumption); have q193 : ((rd_T40 l0_1 x17_4).f0) < (x11_2.length : Int) := of_decide_eq_true (by first | (with_reducible assumption) | assumption); obtain ⟨ad193, e193, hx193_0⟩ := Kd.at_int (Kd.R_reads' HO_11.out).2.2 ((rd_T40 l0_1 x17_4).f0) p193 q193; obtain rfl : (⟨go13, 0, none⟩ : Addr) = ad193 := (by injection e193); (first | simp only [add_plain] at hx193_0 | simp only [add_at] at hx193_0 | simp only [Addr.add, Nat.zero_add] at hx193_0 | skip); have hn193_0 : (⟨go13, 0, none⟩ : Addr).block ≠ gb191 := Kd.own_blk (Kd.R_ne HO_11.out BK191.out (by decide)); have hn193_1 : (⟨go13, 0, none⟩ : Addr).block ≠ gb191 := Kd.own_blk (Kd.R_ne HO_11.out BK191.out (by decide)); replace hx193_0 := (cell_far (p := ⟨gb191, 0, none⟩) (by first | (rw [add_block]; exact hn193_0) | (show (Addr.add _ _).block ≠ _; rw [add_block]; exact hn193_0) | exact hn193_0) (.int .i64 ((rd_T40 l0_1 x17_4).f0))).trans hx193_0; replace hx193_0 := (cell_far (p := ⟨gb191, 1, none⟩) (by first | (rw [add_block]; exact hn193_1) | (show (Addr.add _ _).block ≠ _; rw [add_block]; exact hn193_1) | exact hn193_1) (.int .i64 ((rd_T40 l0_1 x17_4).f1))).trans hx193_0; (try have hy193_0 := fun (n_ : Nat) => (show ((((w92.drewN n_).setCell ⟨gb191, 0, none⟩ (.int .i64 ((rd_T40 l0_1 x17_4).f0))).setCell ⟨gb191, 1, none⟩ (.int .i64 ((rd_T40 l0_1 x17_4).f1)))).cell? _ = some _ from hx193_0)); clear hn193_0 hn193_1; replace p193 := eq_true p193; replace q193 := eq_true q193; have p194 : 0 ≤ (((rd_T40 l0_1 x17_4).f0) : Int) := of_decide_eq_true (by first | (with_reducible assumption) | assumption); have q194 : ((rd_T40 l0_1 x17_4).f0) < (x11_2.length : Int) := of_decide_eq_true (by first | (with_reducible assumption) | assumption); obtain ⟨ad194, e194, hx194_0⟩ := Kd.at_int (Kd.R_reads' HO_11.out).2.2 ((rd_T40 l0_1 x17_4).f0) p194 q194; obtain rfl : (⟨go13, 0, none⟩ : Addr) = ad194 := (by injection e194); (first | simp only [add_plain] at hx194_0 | simp only [add_at] at hx194_0 | simp only [Addr.add, Nat.zero_add] at hx194_0 | skip); have hn194_0 : (⟨go13, 0, none⟩ : Addr).block ≠ gb191 := Kd.own_blk (Kd.R_ne HO_11.out BK191.out (by decide)); have hn194_1 : (⟨go13, 0, none⟩ : Addr).block ≠ gb191 := Kd.own_blk (Kd.R_ne HO_11.out BK191.out (by decide)); replace hx194_0 := (cell_far (p := ⟨gb191, 0, none⟩) (by first | (rw [add_block]; exact hn194_0) | (show (Addr.add _ _).block ≠ _; rw [add_block]; exact hn194_0) | exact hn194_0) (.int .i64 ((rd_T40 l0_1 x17_4).f0))).trans hx194_0; replace hx194_0 := (cell_far (p := ⟨gb191, 1, none⟩) (by first | (rw [add_block]; exact hn194_1) | (show (Addr.add _ _).block ≠ _; rw [add_block]; exact hn194_1) | exact hn194_1) (.int .i64 ((rd_T40 l0_1 x17_4).f1))).trans hx194_0; (try have hy194_0 := fun (n_ : Nat) => (show ((((w92.drewN n_).setCell ⟨gb191, 0, none⟩ (.int .i64 ((rd_T40 l0_1 x17_4).f0))).setCell ⟨gb191, 1, none⟩ (.int .i64 ((rd_T40 l0_1 x17_4).f1)))).cell? _ = some _ from hx194_0)); clear hn194_0 hn194_1; replace p194 := eq_true p194; replace q194 := eq_true q194; have p195 : 0 ≤ (x4_4 : Int) := of_decide_eq_true (by first | (with_reducible assumption) | assumption); have q195 : x4_4 < (x11_2.length : Int) := of_decide_eq_true (by first | (with_reducible assumption) | assumption); obtain ⟨ad195, e195, hx195_0⟩ := Kd.at_int (Kd.R_reads' HO_11.out).2.2 x4_4 p195 q195; obtain rfl : (⟨go13, 0, none⟩ : Addr) = ad195 := (by injection e195); (first | simp only [add_plain] at hx195_0 | simp only [add_at] at hx195_0 | simp only [Addr.add, Nat.zero_add] at hx195_0 | skip); have hn195_0 : (⟨go13, 0, none⟩ : Addr).block ≠ gb191 := Kd.own_blk (Kd.R_ne HO_11.out BK191.out (by decide)); have hn195_1 : (⟨go13, 0, none⟩ : Addr).block ≠ gb191 := Kd.own_blk (Kd.R_ne HO_11.out BK191.out (by decide)); replace hx195_0 := (cell_far (p := ⟨gb191, 0, none⟩) (by first | (rw [add_block]; exact hn195_0) | (show (Addr.add _ _).block ≠ _; rw [add_block]; exact hn195_0) | exact hn195_0) (.int .i64 ((rd_T40 l0_1 x17_4).f0))).trans hx195_0; replace hx195_0 := (cell_far (p := ⟨gb191, 1, none⟩) (by first | (rw [add_block]; exact hn195_1) | (show (Addr.add _ _).block ≠ _; rw [add_block]; exact hn195_1) | exact hn195_1) (.int .i64 ((rd_T40 l0_1 x17_4).f1))).trans hx195_0; (try have hy195_0 := fun (n_ : Nat) => (show ((((w92.drewN n_).setCell ⟨gb191, 0, none⟩ (.int .i64 ((rd_T40 l0_1 x17_4).f0))).setCell ⟨gb191, 1, none⟩ (.int .i64 ((rd_T40 l0_1 x17_4).f1)))).cell? _ = some _ from hx195_0)); clear hn195_0 hn195_1; replace p195 := eq_true p195; replace q195 := eq_true q195)); try go_quiet (fail))
                         go_roundg k4
                         case measure => have := HK1.out; have := HK2.out; have := HK3.out; have := HK4.out; omega
                         case rel => exact ⟨(x4_4), (x16_4), (wrap64 (x17_4 + 1)), (by first | rfl | (simp; done) | (simp [*]; done)), (by first | rfl | (simp; done) | (simp [*]; done)), H', ⟨by have := HK1.out; have := HK2.out; have := HK3.out; have := HK4.out; omega⟩, ⟨by (try simp only [hl11_2]); (with_reducible repeat (first | apply Kd.R_alloc | apply Kd.R_drewN | apply Kd.R_drew)); exact Kd.R_mono (Kd.R_far (p := ⟨gb191, 1, none⟩) (Kd.R_far (p := ⟨gb191, 0, none⟩) (Kd.R_types HO_11.out BK191.out (by decide)) (fun _ hk => hk.2) (.int .i64 ((rd_T40 l0_1 x17_4).f0))) (fun _ hk => hk.2) (.int .i64 ((rd_T40 l0_1 x17_4).f1))) (fun _ hk => hk.1)⟩, ⟨by (try simp only [hl11_2]); (with_reducible repeat (first | apply Kd.R_alloc | apply Kd.R_drewN | apply Kd.R_drew)); exact Kd.R_mono (Kd.R_far (p := ⟨gb191, 1, none⟩) (Kd.R_far (p := ⟨gb191, 0, none⟩) (Kd.R_types HO_16.out BK191.out (by decide)) (fun _ hk => hk.2) (.int .i64 ((rd_T40 l0_1 x17_4).f0))) (fun _ hk => hk.2) (.int .i64 ((rd_T40 l0_1 x17_4).f1))) (fun _ hk => hk.1)⟩, ⟨by (try simp only [hl11_2]); (iterate 2 ((with_reducible repeat first | apply blk_drewN | apply blk_drew | apply blk_alloc); refine blk_far ?_ NB176_191.out _)); (with_reducible repeat first | apply blk_drewN | apply blk_drew | apply blk_alloc); exact BK176.out⟩, ⟨by repeat (first | (with_reducible first | exact HB.out | apply below_alloc | apply pw_below_drewN | apply below_drew1 | refine below_set ?_ GE176.out | refine below_set ?_ GE191.out) | exact HB.out)⟩⟩
                       ·rw [if_neg c75] at H
                        exact absurd H (by simp)
                      ·rw [if_neg c74] at H
                       exact absurd H (by simp)
                     ·rw [if_neg c73] at H
                      have c73b0 : decide (0 ≤ (rd x11_2 ((rd_T40 l0_1 x17_4).f0))) = false := decide_eq_false c73
                      clear c73
                      have H' := Aside0.mk H
                      clear H
                      have hcz95_0 : wr.cell? ⟨gb176, 0, none⟩ = some (.int .i64 a0_0) := (blk_cell BK176.out 0).trans rfl
                      have hcz95_1 : wr.cell? ⟨gb176, 1, none⟩ = some (.slice A0_1 l0_1.length c0_1) := (blk_cell BK176.out 1).trans rfl
                      have hfz95_0 := blk_frozen BK176.out 0
                      have hfz95_1 := blk_frozen BK176.out 1
                      have p190 : 0 ≤ (x17_4 : Int) := of_decide_eq_true (by first | (with_reducible assumption) | assumption)
                      have q190 : x17_4 < (l0_1.length : Int) := of_decide_eq_true (by first | (with_reducible assumption) | assumption)
                      obtain ⟨ad190, e190, hx190_0, hx190_1⟩ := at_T40 HR0_1.out x17_4 p190 q190
                      cases e190
                      replace hx190_0 := (HB.out.cell (World.block_lt_of_cell? w _ hx190_0)).trans hx190_0
                      replace hx190_1 := (HB.out.cell (World.block_lt_of_cell? w _ hx190_1)).trans hx190_1
                      replace p190 := eq_true p190
                      replace q190 := eq_true q190
                      go_wp2_with (first | ((with_reducible refine gate_dst (N := 18) rfl ?_); refine box_event ?hg (N := 18) ?hd (cs := #[.int .i64 0, .int .i64 0]) (t := 40) ?hr ?_; (case hd => rfl); (case hg => rfl); (case hr => first | (go_simp; done) | (go_simp; rfl)); intro gb191 hg w96 hbox hb; have n0_ := Aside0.mk (Kd.R_below (by (with_reducible repeat (first | apply Kd.R_alloc | apply Kd.R_drewN | apply Kd.R_drew)); exact HO_11.out) hb); have n1_ := Aside0.mk (Kd.R_below (by (with_reducible repeat (first | apply Kd.R_alloc | apply Kd.R_drewN | apply Kd.R_drew)); exact HO_16.out) hb); have n2_ := Aside0.mk (blk_below (by (with_reducible repeat first | apply blk_drewN | apply blk_drew | apply blk_alloc); exact BK176.out) hb); have n3_ := Aside0.mk (below_step (by repeat (first | (with_reducible first | exact HB.out | apply below_alloc | apply pw_below_drewN | apply below_drew1 | refine below_set ?_ GE176.out) | exact HB.out)) hb); have n4_ := Aside0.mk (hbox); have n5_ := Aside0.mk ((by rw [hg]; exact (below_size (by repeat (first | (with_reducible first | exact HB.out | apply below_alloc | apply pw_below_drewN | apply below_drew1 | refine below_set ?_ GE176.out) | exact HB.out))) : w.heap.size ≤ gb191)); have n6_ := n5_; have n7_ := Aside0.mk ((by rw [hg]; exact Nat.ne_of_lt (blk_lt (by (with_reducible repeat first | apply blk_drewN | apply blk_drew | apply blk_alloc); exact BK176.out)) : gb176 ≠ gb191)); have n8_ : Aside0 (gb191 ≠ gb176) := ⟨Ne.symm n7_.out⟩; clear HO_11 HO_16 BK176 HB; have HO_11 := n0_; have HO_16 := n1_; have BK176 := n2_; have HB := n3_; have BK191 := n4_; have GW191 := n5_; have GE191 := n6_; have NB176_191 := n7_; have NB191_176 := n8_; clear n0_ n1_ n2_ n3_ n4_ n5_ n6_ n7_ n8_ hb hbox hg; have hnb97 := NB191_176.out; have hnc97 := NB176_191.out; have hcz98_0 : w96.cell? ⟨gb191, 0, none⟩ = some (.int .i64 0) := (blk_cell BK191.out 0).trans rfl; have hcz98_1 : w96.cell? ⟨gb191, 1, none⟩ = some (.int .i64 0) := (blk_cell BK191.out 1).trans rfl; have hfz98_0 := blk_frozen BK191.out 0; have hfz98_1 := blk_frozen BK191.out 1; have p192 : 0 ≤ (x17_4 : Int) := of_decide_eq_true (by first | (with_reducible assumption) | assumption); have q192 : x17_4 < (l1.length : Int) := of_decide_eq_true (by first | (with_reducible assumption) | assumption); obtain ⟨ad192, e192, hx192_0⟩ := Kd.at_int HR1.out x17_4 p192 q192; cases e192; have hn192_0 : ad192.block ≠ gb191 := Nat.ne_of_lt (Nat.lt_of_lt_of_le (by have := World.block_lt_of_cell? _ _ hx192_0; first | rwa [add_block] at this | exact this) GW191.out); have hn192_1 : ad192.block ≠ gb191 := Nat.ne_of_lt (Nat.lt_of_lt_of_le (by have := World.block_lt_of_cell? _ _ hx192_0; first | rwa [add_block] at this | exact this) GW191.out); replace hx192_0 := (HB.out.cell (World.block_lt_of_cell? w _ hx192_0)).trans hx192_0; replace hx192_0 := (cell_far (p := ⟨gb191, 0, none⟩) (by first | (rw [add_block]; exact hn192_0) | (show (Addr.add _ _).block ≠ _; rw [add_block]; exact hn192_0) | exact hn192_0) (.int .i64 ((rd_T40 l0_1 x17_4).f0))).trans hx192_0; replace hx192_0 := (cell_far (p := ⟨gb191, 1, none⟩) (by first | (rw [add_block]; exact hn192_1) | (show (Addr.add _ _).block ≠ _; rw [add_block]; exact hn192_1) | exact hn192_1) (.int .i64 ((rd_T40 l0_1 x17_4).f1))).trans hx192_0; (try have hy192_0 := fun (n_ : Nat) => (show ((((w96.drewN n_).setCell ⟨gb191, 0, none⟩ (.int .i64 ((rd_T40 l0_1 x17_4).f0))).setCell ⟨gb191, 1, none⟩ (.int .i64 ((rd_T40 l0_1 x17_4).f1)))).cell? _ = some _ from hx192_0)); clear hn192_0 hn192_1; replace p192 := eq_true p192; replace q192 := eq_true q192; have p193 : 0 ≤ (((rd_T40 l0_1 x17_4).f0) : Int) := of_decide_eq_true (by first | (with_reducible assumption) | assumption); have q193 : ((rd_T40 l0_1 x17_4).f0) < (x11_2.length : Int) := of_decide_eq_true (by first | (with_reducible assumption) | assumption); obtain ⟨ad193, e193, hx193_0⟩ := Kd.at_int (Kd.R_reads' HO_11.out).2.2 ((rd_T40 l0_1 x17_4).f0) p193 q193; obtain rfl : (⟨go13, 0, none⟩ : Addr) = ad193 := (by injection e193); (first | simp only [add_plain] at hx193_0 | simp only [add_at] at hx193_0 | simp only [Addr.add, Nat.zero_add] at hx193_0 | skip); have hn193_0 : (⟨go13, 0, none⟩ : Addr).block ≠ gb191 := Kd.own_blk (Kd.R_ne HO_11.out BK191.out (by decide)); have hn193_1 : (⟨go13, 0, none⟩ : Addr).block ≠ gb191 := Kd.own_blk (Kd.R_ne HO_11.out BK191.out (by decide)); replace hx193_0 := (cell_far (p := ⟨gb191, 0, none⟩) (by first | (rw [add_block]; exact hn193_0) | (show (Addr.add _ _).block ≠ _; rw [add_block]; exact hn193_0) | exact hn193_0) (.int .i64 ((rd_T40 l0_1 x17_4).f0))).trans hx193_0; replace hx193_0 := (cell_far (p := ⟨gb191, 1, none⟩) (by first | (rw [add_block]; exact hn193_1) | (show (Addr.add _ _).block ≠ _; rw [add_block]; exact hn193_1) | exact hn193_1) (.int .i64 ((rd_T40 l0_1 x17_4).f1))).trans hx193_0; (try have hy193_0 := fun (n_ : Nat) => (show ((((w96.drewN n_).setCell ⟨gb191, 0, none⟩ (.int .i64 ((rd_T40 l0_1 x17_4).f0))).setCell ⟨gb191, 1, none⟩ (.int .i64 ((rd_T40 l0_1 x17_4).f1)))).cell? _ = some _ from hx193_0)); clear hn193_0 hn193_1; replace p193 := eq_true p193; replace q193 := eq_true q193))
                      repeat (go_quiet (first | ((with_reducible refine gate_dst (N := 18) rfl ?_); refine box_event ?hg (N := 18) ?hd (cs := #[.int .i64 0, .int .i64 0]) (t := 40) ?hr ?_; (case hd => rfl); (case hg => rfl); (case hr => first | (go_simp; done) | (go_simp; rfl)); intro gb191 hg w96 hbox hb; have n0_ := Aside0.mk (Kd.R_below (by (with_reducible repeat (first | apply Kd.R_alloc | apply Kd.R_drewN | apply Kd.R_drew)); exact HO_11.out) hb); have n1_ := Aside0.mk (Kd.R_below (by (with_reducible repeat (first | apply Kd.R_alloc | apply Kd.R_drewN | apply Kd.R_drew)); exact HO_16.out) hb); have n2_ := Aside0.mk (blk_below (by (with_reducible repeat first | apply blk_drewN | apply blk_drew | apply blk_alloc); exact BK176.out) hb); have n3_ := Aside0.mk (below_step (by repeat (first | (with_reducible first | exact HB.out | apply below_alloc | apply pw_below_drewN | apply below_drew1 | refine below_set ?_ GE176.out) | exact HB.out)) hb); have n4_ := Aside0.mk (hbox); have n5_ := Aside0.mk ((by rw [hg]; exact (below_size (by repeat (first | (with_reducible first | exact HB.out | apply below_alloc | apply pw_below_drewN | apply below_drew1 | refine below_set ?_ GE176.out) | exact HB.out))) : w.heap.size ≤ gb191)); have n6_ := n5_; have n7_ := Aside0.mk ((by rw [hg]; exact Nat.ne_of_lt (blk_lt (by (with_reducible repeat first | apply blk_drewN | apply blk_drew | apply blk_alloc); exact BK176.out)) : gb176 ≠ gb191)); have n8_ : Aside0 (gb191 ≠ gb176) := ⟨Ne.symm n7_.out⟩; clear HO_11 HO_16 BK176 HB; have HO_11 := n0_; have HO_16 := n1_; have BK176 := n2_; have HB := n3_; have BK191 := n4_; have GW191 := n5_; have GE191 := n6_; have NB176_191 := n7_; have NB191_176 := n8_; clear n0_ n1_ n2_ n3_ n4_ n5_ n6_ n7_ n8_ hb hbox hg; have hnb97 := NB191_176.out; have hnc97 := NB176_191.out; have hcz98_0 : w96.cell? ⟨gb191, 0, none⟩ = some (.int .i64 0) := (blk_cell BK191.out 0).trans rfl; have hcz98_1 : w96.cell? ⟨gb191, 1, none⟩ = some (.int .i64 0) := (blk_cell BK191.out 1).trans rfl; have hfz98_0 := blk_frozen BK191.out 0; have hfz98_1 := blk_frozen BK191.out 1; have p192 : 0 ≤ (x17_4 : Int) := of_decide_eq_true (by first | (with_reducible assumption) | assumption); have q192 : x17_4 < (l1.length : Int) := of_decide_eq_true (by first | (with_reducible assumption) | assumption); obtain ⟨ad192, e192, hx192_0⟩ := Kd.at_int HR1.out x17_4 p192 q192; cases e192; have hn192_0 : ad192.block ≠ gb191 := Nat.ne_of_lt (Nat.lt_of_lt_of_le (by have := World.block_lt_of_cell? _ _ hx192_0; first | rwa [add_block] at this | exact this) GW191.out); have hn192_1 : ad192.block ≠ gb191 := Nat.ne_of_lt (Nat.lt_of_lt_of_le (by have := World.block_lt_of_cell? _ _ hx192_0; first | rwa [add_block] at this | exact this) GW191.out); replace hx192_0 := (HB.out.cell (World.block_lt_of_cell? w _ hx192_0)).trans hx192_0; replace hx192_0 := (cell_far (p := ⟨gb191, 0, none⟩) (by first | (rw [add_block]; exact hn192_0) | (show (Addr.add _ _).block ≠ _; rw [add_block]; exact hn192_0) | exact hn192_0) (.int .i64 ((rd_T40 l0_1 x17_4).f0))).trans hx192_0; replace hx192_0 := (cell_far (p := ⟨gb191, 1, none⟩) (by first | (rw [add_block]; exact hn192_1) | (show (Addr.add _ _).block ≠ _; rw [add_block]; exact hn192_1) | exact hn192_1) (.int .i64 ((rd_T40 l0_1 x17_4).f1))).trans hx192_0; (try have hy192_0 := fun (n_ : Nat) => (show ((((w96.drewN n_).setCell ⟨gb191, 0, none⟩ (.int .i64 ((rd_T40 l0_1 x17_4).f0))).setCell ⟨gb191, 1, none⟩ (.int .i64 ((rd_T40 l0_1 x17_4).f1)))).cell? _ = some _ from hx192_0)); clear hn192_0 hn192_1; replace p192 := eq_true p192; replace q192 := eq_true q192; have p193 : 0 ≤ (((rd_T40 l0_1 x17_4).f0) : Int) := of_decide_eq_true (by first | (with_reducible assumption) | assumption); have q193 : ((rd_T40 l0_1 x17_4).f0) < (x11_2.length : Int) := of_decide_eq_true (by first | (with_reducible assumption) | assumption); obtain ⟨ad193, e193, hx193_0⟩ := Kd.at_int (Kd.R_reads' HO_11.out).2.2 ((rd_T40 l0_1 x17_4).f0) p193 q193; obtain rfl : (⟨go13, 0, none⟩ : Addr) = ad193 := (by injection e193); (first | simp only [add_plain] at hx193_0 | simp only [add_at] at hx193_0 | simp only [Addr.add, Nat.zero_add] at hx193_0 | skip); have hn193_0 : (⟨go13, 0, none⟩ : Addr).block ≠ gb191 := Kd.own_blk (Kd.R_ne HO_11.out BK191.out (by decide)); have hn193_1 : (⟨go13, 0, none⟩ : Addr).block ≠ gb191 := Kd.own_blk (Kd.R_ne HO_11.out BK191.out (by decide)); replace hx193_0 := (cell_far (p := ⟨gb191, 0, none⟩) (by first | (rw [add_block]; exact hn193_0) | (show (Addr.add _ _).block ≠ _; rw [add_block]; exact hn193_0) | exact hn193_0) (.int .i64 ((rd_T40 l0_1 x17_4).f0))).trans hx193_0; replace hx193_0 := (cell_far (p := ⟨gb191, 1, none⟩) (by first | (rw [add_block]; exact hn193_1) | (show (Addr.add _ _).block ≠ _; rw [add_block]; exact hn193_1) | exact hn193_1) (.int .i64 ((rd_T40 l0_1 x17_4).f1))).trans hx193_0; (try have hy193_0 := fun (n_ : Nat) => (show ((((w96.drewN n_).setCell ⟨gb191, 0, none⟩ (.int .i64 ((rd_T40 l0_1 x17_4).f0))).setCell ⟨gb191, 1, none⟩ (.int .i64 ((rd_T40 l0_1 x17_4).f1)))).cell? _ = some _ from hx193_0)); clear hn193_0 hn193_1; replace p193 := eq_true p193; replace q193 := eq_true q193)); try go_wp2_with (first | ((with_reducible refine gate_dst (N := 18) rfl ?_); refine box_event ?hg (N := 18) ?hd (cs := #[.int .i64 0, .int .i64 0]) (t := 40) ?hr ?_; (case hd => rfl); (case hg => rfl); (case hr => first | (go_simp; done) | (go_simp; rfl)); intro gb191 hg w96 hbox hb; have n0_ := Aside0.mk (Kd.R_below (by (with_reducible repeat (first | apply Kd.R_alloc | apply Kd.R_drewN | apply Kd.R_drew)); exact HO_11.out) hb); have n1_ := Aside0.mk (Kd.R_below (by (with_reducible repeat (first | apply Kd.R_alloc | apply Kd.R_drewN | apply Kd.R_drew)); exact HO_16.out) hb); have n2_ := Aside0.mk (blk_below (by (with_reducible repeat first | apply blk_drewN | apply blk_drew | apply blk_alloc); exact BK176.out) hb); have n3_ := Aside0.mk (below_step (by repeat (first | (with_reducible first | exact HB.out | apply below_alloc | apply pw_below_drewN | apply below_drew1 | refine below_set ?_ GE176.out) | exact HB.out)) hb); have n4_ := Aside0.mk (hbox); have n5_ := Aside0.mk ((by rw [hg]; exact (below_size (by repeat (first | (with_reducible first | exact HB.out | apply below_alloc | apply pw_below_drewN | apply below_drew1 | refine below_set ?_ GE176.out) | exact HB.out))) : w.heap.size ≤ gb191)); have n6_ := n5_; have n7_ := Aside0.mk ((by rw [hg]; exact Nat.ne_of_lt (blk_lt (by (with_reducible repeat first | apply blk_drewN | apply blk_drew | apply blk_alloc); exact BK176.out)) : gb176 ≠ gb191)); have n8_ : Aside0 (gb191 ≠ gb176) := ⟨Ne.symm n7_.out⟩; clear HO_11 HO_16 BK176 HB; have HO_11 := n0_; have HO_16 := n1_; have BK176 := n2_; have HB := n3_; have BK191 := n4_; have GW191 := n5_; have GE191 := n6_; have NB176_191 := n7_; have NB191_176 := n8_; clear n0_ n1_ n2_ n3_ n4_ n5_ n6_ n7_ n8_ hb hbox hg; have hnb97 := NB191_176.out; have hnc97 := NB176_191.out; have hcz98_0 : w96.cell? ⟨gb191, 0, none⟩ = some (.int .i64 0) := (blk_cell BK191.out 0).trans rfl; have hcz98_1 : w96.cell? ⟨gb191, 1, none⟩ = some (.int .i64 0) := (blk_cell BK191.out 1).trans rfl; have hfz98_0 := blk_frozen BK191.out 0; have hfz98_1 := blk_frozen BK191.out 1; have p192 : 0 ≤ (x17_4 : Int) := of_decide_eq_true (by first | (with_reducible assumption) | assumption); have q192 : x17_4 < (l1.length : Int) := of_decide_eq_true (by first | (with_reducible assumption) | assumption); obtain ⟨ad192, e192, hx192_0⟩ := Kd.at_int HR1.out x17_4 p192 q192; cases e192; have hn192_0 : ad192.block ≠ gb191 := Nat.ne_of_lt (Nat.lt_of_lt_of_le (by have := World.block_lt_of_cell? _ _ hx192_0; first | rwa [add_block] at this | exact this) GW191.out); have hn192_1 : ad192.block ≠ gb191 := Nat.ne_of_lt (Nat.lt_of_lt_of_le (by have := World.block_lt_of_cell? _ _ hx192_0; first | rwa [add_block] at this | exact this) GW191.out); replace hx192_0 := (HB.out.cell (World.block_lt_of_cell? w _ hx192_0)).trans hx192_0; replace hx192_0 := (cell_far (p := ⟨gb191, 0, none⟩) (by first | (rw [add_block]; exact hn192_0) | (show (Addr.add _ _).block ≠ _; rw [add_block]; exact hn192_0) | exact hn192_0) (.int .i64 ((rd_T40 l0_1 x17_4).f0))).trans hx192_0; replace hx192_0 := (cell_far (p := ⟨gb191, 1, none⟩) (by first | (rw [add_block]; exact hn192_1) | (show (Addr.add _ _).block ≠ _; rw [add_block]; exact hn192_1) | exact hn192_1) (.int .i64 ((rd_T40 l0_1 x17_4).f1))).trans hx192_0; (try have hy192_0 := fun (n_ : Nat) => (show ((((w96.drewN n_).setCell ⟨gb191, 0, none⟩ (.int .i64 ((rd_T40 l0_1 x17_4).f0))).setCell ⟨gb191, 1, none⟩ (.int .i64 ((rd_T40 l0_1 x17_4).f1)))).cell? _ = some _ from hx192_0)); clear hn192_0 hn192_1; replace p192 := eq_true p192; replace q192 := eq_true q192; have p193 : 0 ≤ (((rd_T40 l0_1 x17_4).f0) : Int) := of_decide_eq_true (by first | (with_reducible assumption) | assumption); have q193 : ((rd_T40 l0_1 x17_4).f0) < (x11_2.length : Int) := of_decide_eq_true (by first | (with_reducible assumption) | assumption); obtain ⟨ad193, e193, hx193_0⟩ := Kd.at_int (Kd.R_reads' HO_11.out).2.2 ((rd_T40 l0_1 x17_4).f0) p193 q193; obtain rfl : (⟨go13, 0, none⟩ : Addr) = ad193 := (by injection e193); (first | simp only [add_plain] at hx193_0 | simp only [add_at] at hx193_0 | simp only [Addr.add, Nat.zero_add] at hx193_0 | skip); have hn193_0 : (⟨go13, 0, none⟩ : Addr).block ≠ gb191 := Kd.own_blk (Kd.R_ne HO_11.out BK191.out (by decide)); have hn193_1 : (⟨go13, 0, none⟩ : Addr).block ≠ gb191 := Kd.own_blk (Kd.R_ne HO_11.out BK191.out (by decide)); replace hx193_0 := (cell_far (p := ⟨gb191, 0, none⟩) (by first | (rw [add_block]; exact hn193_0) | (show (Addr.add _ _).block ≠ _; rw [add_block]; exact hn193_0) | exact hn193_0) (.int .i64 ((rd_T40 l0_1 x17_4).f0))).trans hx193_0; replace hx193_0 := (cell_far (p := ⟨gb191, 1, none⟩) (by first | (rw [add_block]; exact hn193_1) | (show (Addr.add _ _).block ≠ _; rw [add_block]; exact hn193_1) | exact hn193_1) (.int .i64 ((rd_T40 l0_1 x17_4).f1))).trans hx193_0; (try have hy193_0 := fun (n_ : Nat) => (show ((((w96.drewN n_).setCell ⟨gb191, 0, none⟩ (.int .i64 ((rd_T40 l0_1 x17_4).f0))).setCell ⟨gb191, 1, none⟩ (.int .i64 ((rd_T40 l0_1 x17_4).f1)))).cell? _ = some _ from hx193_0)); clear hn193_0 hn193_1; replace p193 := eq_true p193; replace q193 := eq_true q193)))
                      go_roundg k4
                      case measure => have := HK1.out; have := HK2.out; have := HK3.out; have := HK4.out; omega
                      case rel => exact ⟨(x4_4), (x16_4), (wrap64 (x17_4 + 1)), (by first | rfl | (simp; done) | (simp [*]; done)), (by first | rfl | (simp; done) | (simp [*]; done)), H', ⟨by have := HK1.out; have := HK2.out; have := HK3.out; have := HK4.out; omega⟩, ⟨by (try simp only [hl11_2]); (with_reducible repeat (first | apply Kd.R_alloc | apply Kd.R_drewN | apply Kd.R_drew)); exact Kd.R_mono (Kd.R_far (p := ⟨gb191, 1, none⟩) (Kd.R_far (p := ⟨gb191, 0, none⟩) (Kd.R_types HO_11.out BK191.out (by decide)) (fun _ hk => hk.2) (.int .i64 ((rd_T40 l0_1 x17_4).f0))) (fun _ hk => hk.2) (.int .i64 ((rd_T40 l0_1 x17_4).f1))) (fun _ hk => hk.1)⟩, ⟨by (try simp only [hl11_2]); (with_reducible repeat (first | apply Kd.R_alloc | apply Kd.R_drewN | apply Kd.R_drew)); exact Kd.R_mono (Kd.R_far (p := ⟨gb191, 1, none⟩) (Kd.R_far (p := ⟨gb191, 0, none⟩) (Kd.R_types HO_16.out BK191.out (by decide)) (fun _ hk => hk.2) (.int .i64 ((rd_T40 l0_1 x17_4).f0))) (fun _ hk => hk.2) (.int .i64 ((rd_T40 l0_1 x17_4).f1))) (fun _ hk => hk.1)⟩, ⟨by (try simp only [hl11_2]); (iterate 2 ((with_reducible repeat first | apply blk_drewN | apply blk_drew | apply blk_alloc); refine blk_far ?_ NB176_191.out _)); (with_reducible repeat first | apply blk_drewN | apply blk_drew | apply blk_alloc); exact BK176.out⟩, ⟨by repeat (first | (with_reducible first | exact HB.out | apply below_alloc | apply pw_below_drewN | apply below_drew1 | refine below_set ?_ GE176.out | refine below_set ?_ GE191.out) | exact HB.out)⟩⟩
                    ·rw [if_neg c72] at H
                     exact absurd H (by simp)
                   ·rw [if_neg c71] at H
                    exact absurd H (by simp)
                  ·rw [if_neg c70] at H
                   have c70b0 : (((rd_T40 l0_1 x17_4).f1) == x4_4) = false := beq_eq_false_iff_ne.mpr c70
                   have c70b1 : (((rd_T40 l0_1 x17_4).f1) != x4_4) = true := bne_iff_ne.mpr c70
                   have H' := Aside0.mk H
                   clear H
                   have hcz99_0 : wr.cell? ⟨gb176, 0, none⟩ = some (.int .i64 a0_0) := (blk_cell BK176.out 0).trans rfl
                   have hcz99_1 : wr.cell? ⟨gb176, 1, none⟩ = some (.slice A0_1 l0_1.length c0_1) := (blk_cell BK176.out 1).trans rfl
                   have hfz99_0 := blk_frozen BK176.out 0
                   have hfz99_1 := blk_frozen BK176.out 1
                   have p190 : 0 ≤ (x17_4 : Int) := of_decide_eq_true (by first | (with_reducible assumption) | assumption)
                   have q190 : x17_4 < (l0_1.length : Int) := of_decide_eq_true (by first | (with_reducible assumption) | assumption)
                   obtain ⟨ad190, e190, hx190_0, hx190_1⟩ := at_T40 HR0_1.out x17_4 p190 q190
                   cases e190
                   replace hx190_0 := (HB.out.cell (World.block_lt_of_cell? w _ hx190_0)).trans hx190_0
                   replace hx190_1 := (HB.out.cell (World.block_lt_of_cell? w _ hx190_1)).trans hx190_1
                   replace p190 := eq_true p190
                   replace q190 := eq_true q190
                   go_wp2_with (first | ((with_reducible refine gate_dst (N := 18) rfl ?_); refine box_event ?hg (N := 18) ?hd (cs := #[.int .i64 0, .int .i64 0]) (t := 40) ?hr ?_; (case hd => rfl); (case hg => rfl); (case hr => first | (go_simp; done) | (go_simp; rfl)); intro gb191 hg w100 hbox hb; have n0_ := Aside0.mk (Kd.R_below (by (with_reducible repeat (first | apply Kd.R_alloc | apply Kd.R_drewN | apply Kd.R_drew)); exact HO_11.out) hb); have n1_ := Aside0.mk (Kd.R_below (by (with_reducible repeat (first | apply Kd.R_alloc | apply Kd.R_drewN | apply Kd.R_drew)); exact HO_16.out) hb); have n2_ := Aside0.mk (blk_below (by (with_reducible repeat first | apply blk_drewN | apply blk_drew | apply blk_alloc); exact BK176.out) hb); have n3_ := Aside0.mk (below_step (by repeat (first | (with_reducible first | exact HB.out | apply below_alloc | apply pw_below_drewN | apply below_drew1 | refine below_set ?_ GE176.out) | exact HB.out)) hb); have n4_ := Aside0.mk (hbox); have n5_ := Aside0.mk ((by rw [hg]; exact (below_size (by repeat (first | (with_reducible first | exact HB.out | apply below_alloc | apply pw_below_drewN | apply below_drew1 | refine below_set ?_ GE176.out) | exact HB.out))) : w.heap.size ≤ gb191)); have n6_ := n5_; have n7_ := Aside0.mk ((by rw [hg]; exact Nat.ne_of_lt (blk_lt (by (with_reducible repeat first | apply blk_drewN | apply blk_drew | apply blk_alloc); exact BK176.out)) : gb176 ≠ gb191)); have n8_ : Aside0 (gb191 ≠ gb176) := ⟨Ne.symm n7_.out⟩; clear HO_11 HO_16 BK176 HB; have HO_11 := n0_; have HO_16 := n1_; have BK176 := n2_; have HB := n3_; have BK191 := n4_; have GW191 := n5_; have GE191 := n6_; have NB176_191 := n7_; have NB191_176 := n8_; clear n0_ n1_ n2_ n3_ n4_ n5_ n6_ n7_ n8_ hb hbox hg; have hnb101 := NB191_176.out; have hnc101 := NB176_191.out; have hcz102_0 : w100.cell? ⟨gb191, 0, none⟩ = some (.int .i64 0) := (blk_cell BK191.out 0).trans rfl; have hcz102_1 : w100.cell? ⟨gb191, 1, none⟩ = some (.int .i64 0) := (blk_cell BK191.out 1).trans rfl; have hfz102_0 := blk_frozen BK191.out 0; have hfz102_1 := blk_frozen BK191.out 1; have p192 : 0 ≤ (x17_4 : Int) := of_decide_eq_true (by first | (with_reducible assumption) | assumption); have q192 : x17_4 < (l1.length : Int) := of_decide_eq_true (by first | (with_reducible assumption) | assumption); obtain ⟨ad192, e192, hx192_0⟩ := Kd.at_int HR1.out x17_4 p192 q192; cases e192; have hn192_0 : ad192.block ≠ gb191 := Nat.ne_of_lt (Nat.lt_of_lt_of_le (by have := World.block_lt_of_cell? _ _ hx192_0; first | rwa [add_block] at this | exact this) GW191.out); have hn192_1 : ad192.block ≠ gb191 := Nat.ne_of_lt (Nat.lt_of_lt_of_le (by have := World.block_lt_of_cell? _ _ hx192_0; first | rwa [add_block] at this | exact this) GW191.out); replace hx192_0 := (HB.out.cell (World.block_lt_of_cell? w _ hx192_0)).trans hx192_0; replace hx192_0 := (cell_far (p := ⟨gb191, 0, none⟩) (by first | (rw [add_block]; exact hn192_0) | (show (Addr.add _ _).block ≠ _; rw [add_block]; exact hn192_0) | exact hn192_0) (.int .i64 ((rd_T40 l0_1 x17_4).f0))).trans hx192_0; replace hx192_0 := (cell_far (p := ⟨gb191, 1, none⟩) (by first | (rw [add_block]; exact hn192_1) | (show (Addr.add _ _).block ≠ _; rw [add_block]; exact hn192_1) | exact hn192_1) (.int .i64 ((rd_T40 l0_1 x17_4).f1))).trans hx192_0; (try have hy192_0 := fun (n_ : Nat) => (show ((((w100.drewN n_).setCell ⟨gb191, 0, none⟩ (.int .i64 ((rd_T40 l0_1 x17_4).f0))).setCell ⟨gb191, 1, none⟩ (.int .i64 ((rd_T40 l0_1 x17_4).f1)))).cell? _ = some _ from hx192_0)); clear hn192_0 hn192_1; replace p192 := eq_true p192; replace q192 := eq_true q192))
                   repeat (go_quiet (first | ((with_reducible refine gate_dst (N := 18) rfl ?_); refine box_event ?hg (N := 18) ?hd (cs := #[.int .i64 0, .int .i64 0]) (t := 40) ?hr ?_; (case hd => rfl); (case hg => rfl); (case hr => first | (go_simp; done) | (go_simp; rfl)); intro gb191 hg w100 hbox hb; have n0_ := Aside0.mk (Kd.R_below (by (with_reducible repeat (first | apply Kd.R_alloc | apply Kd.R_drewN | apply Kd.R_drew)); exact HO_11.out) hb); have n1_ := Aside0.mk (Kd.R_below (by (with_reducible repeat (first | apply Kd.R_alloc | apply Kd.R_drewN | apply Kd.R_drew)); exact HO_16.out) hb); have n2_ := Aside0.mk (blk_below (by (with_reducible repeat first | apply blk_drewN | apply blk_drew | apply blk_alloc); exact BK176.out) hb); have n3_ := Aside0.mk (below_step (by repeat (first | (with_reducible first | exact HB.out | apply below_alloc | apply pw_below_drewN | apply below_drew1 | refine below_set ?_ GE176.out) | exact HB.out)) hb); have n4_ := Aside0.mk (hbox); have n5_ := Aside0.mk ((by rw [hg]; exact (below_size (by repeat (first | (with_reducible first | exact HB.out | apply below_alloc | apply pw_below_drewN | apply below_drew1 | refine below_set ?_ GE176.out) | exact HB.out))) : w.heap.size ≤ gb191)); have n6_ := n5_; have n7_ := Aside0.mk ((by rw [hg]; exact Nat.ne_of_lt (blk_lt (by (with_reducible repeat first | apply blk_drewN | apply blk_drew | apply blk_alloc); exact BK176.out)) : gb176 ≠ gb191)); have n8_ : Aside0 (gb191 ≠ gb176) := ⟨Ne.symm n7_.out⟩; clear HO_11 HO_16 BK176 HB; have HO_11 := n0_; have HO_16 := n1_; have BK176 := n2_; have HB := n3_; have BK191 := n4_; have GW191 := n5_; have GE191 := n6_; have NB176_191 := n7_; have NB191_176 := n8_; clear n0_ n1_ n2_ n3_ n4_ n5_ n6_ n7_ n8_ hb hbox hg; have hnb101 := NB191_176.out; have hnc101 := NB176_191.out; have hcz102_0 : w100.cell? ⟨gb191, 0, none⟩ = some (.int .i64 0) := (blk_cell BK191.out 0).trans rfl; have hcz102_1 : w100.cell? ⟨gb191, 1, none⟩ = some (.int .i64 0) := (blk_cell BK191.out 1).trans rfl; have hfz102_0 := blk_frozen BK191.out 0; have hfz102_1 := blk_frozen BK191.out 1; have p192 : 0 ≤ (x17_4 : Int) := of_decide_eq_true (by first | (with_reducible assumption) | assumption); have q192 : x17_4 < (l1.length : Int) := of_decide_eq_true (by first | (with_reducible assumption) | assumption); obtain ⟨ad192, e192, hx192_0⟩ := Kd.at_int HR1.out x17_4 p192 q192; cases e192; have hn192_0 : ad192.block ≠ gb191 := Nat.ne_of_lt (Nat.lt_of_lt_of_le (by have := World.block_lt_of_cell? _ _ hx192_0; first | rwa [add_block] at this | exact this) GW191.out); have hn192_1 : ad192.block ≠ gb191 := Nat.ne_of_lt (Nat.lt_of_lt_of_le (by have := World.block_lt_of_cell? _ _ hx192_0; first | rwa [add_block] at this | exact this) GW191.out); replace hx192_0 := (HB.out.cell (World.block_lt_of_cell? w _ hx192_0)).trans hx192_0; replace hx192_0 := (cell_far (p := ⟨gb191, 0, none⟩) (by first | (rw [add_block]; exact hn192_0) | (show (Addr.add _ _).block ≠ _; rw [add_block]; exact hn192_0) | exact hn192_0) (.int .i64 ((rd_T40 l0_1 x17_4).f0))).trans hx192_0; replace hx192_0 := (cell_far (p := ⟨gb191, 1, none⟩) (by first | (rw [add_block]; exact hn192_1) | (show (Addr.add _ _).block ≠ _; rw [add_block]; exact hn192_1) | exact hn192_1) (.int .i64 ((rd_T40 l0_1 x17_4).f1))).trans hx192_0; (try have hy192_0 := fun (n_ : Nat) => (show ((((w100.drewN n_).setCell ⟨gb191, 0, none⟩ (.int .i64 ((rd_T40 l0_1 x17_4).f0))).setCell ⟨gb191, 1, none⟩ (.int .i64 ((rd_T40 l0_1 x17_4).f1)))).cell? _ = some _ from hx192_0)); clear hn192_0 hn192_1; replace p192 := eq_true p192; replace q192 := eq_true q192)); try go_wp2_with (first | ((with_reducible refine gate_dst (N := 18) rfl ?_); refine box_event ?hg (N := 18) ?hd (cs := #[.int .i64 0, .int .i64 0]) (t := 40) ?hr ?_; (case hd => rfl); (case hg => rfl); (case hr => first | (go_simp; done) | (go_simp; rfl)); intro gb191 hg w100 hbox hb; have n0_ := Aside0.mk (Kd.R_below (by (with_reducible repeat (first | apply Kd.R_alloc | apply Kd.R_drewN | apply Kd.R_drew)); exact HO_11.out) hb); have n1_ := Aside0.mk (Kd.R_below (by (with_reducible repeat (first | apply Kd.R_alloc | apply Kd.R_drewN | apply Kd.R_drew)); exact HO_16.out) hb); have n2_ := Aside0.mk (blk_below (by (with_reducible repeat first | apply blk_drewN | apply blk_drew | apply blk_alloc); exact BK176.out) hb); have n3_ := Aside0.mk (below_step (by repeat (first | (with_reducible first | exact HB.out | apply below_alloc | apply pw_below_drewN | apply below_drew1 | refine below_set ?_ GE176.out) | exact HB.out)) hb); have n4_ := Aside0.mk (hbox); have n5_ := Aside0.mk ((by rw [hg]; exact (below_size (by repeat (first | (with_reducible first | exact HB.out | apply below_alloc | apply pw_below_drewN | apply below_drew1 | refine below_set ?_ GE176.out) | exact HB.out))) : w.heap.size ≤ gb191)); have n6_ := n5_; have n7_ := Aside0.mk ((by rw [hg]; exact Nat.ne_of_lt (blk_lt (by (with_reducible repeat first | apply blk_drewN | apply blk_drew | apply blk_alloc); exact BK176.out)) : gb176 ≠ gb191)); have n8_ : Aside0 (gb191 ≠ gb176) := ⟨Ne.symm n7_.out⟩; clear HO_11 HO_16 BK176 HB; have HO_11 := n0_; have HO_16 := n1_; have BK176 := n2_; have HB := n3_; have BK191 := n4_; have GW191 := n5_; have GE191 := n6_; have NB176_191 := n7_; have NB191_176 := n8_; clear n0_ n1_ n2_ n3_ n4_ n5_ n6_ n7_ n8_ hb hbox hg; have hnb101 := NB191_176.out; have hnc101 := NB176_191.out; have hcz102_0 : w100.cell? ⟨gb191, 0, none⟩ = some (.int .i64 0) := (blk_cell BK191.out 0).trans rfl; have hcz102_1 : w100.cell? ⟨gb191, 1, none⟩ = some (.int .i64 0) := (blk_cell BK191.out 1).trans rfl; have hfz102_0 := blk_frozen BK191.out 0; have hfz102_1 := blk_frozen BK191.out 1; have p192 : 0 ≤ (x17_4 : Int) := of_decide_eq_true (by first | (with_reducible assumption) | assumption); have q192 : x17_4 < (l1.length : Int) := of_decide_eq_true (by first | (with_reducible assumption) | assumption); obtain ⟨ad192, e192, hx192_0⟩ := Kd.at_int HR1.out x17_4 p192 q192; cases e192; have hn192_0 : ad192.block ≠ gb191 := Nat.ne_of_lt (Nat.lt_of_lt_of_le (by have := World.block_lt_of_cell? _ _ hx192_0; first | rwa [add_block] at this | exact this) GW191.out); have hn192_1 : ad192.block ≠ gb191 := Nat.ne_of_lt (Nat.lt_of_lt_of_le (by have := World.block_lt_of_cell? _ _ hx192_0; first | rwa [add_block] at this | exact this) GW191.out); replace hx192_0 := (HB.out.cell (World.block_lt_of_cell? w _ hx192_0)).trans hx192_0; replace hx192_0 := (cell_far (p := ⟨gb191, 0, none⟩) (by first | (rw [add_block]; exact hn192_0) | (show (Addr.add _ _).block ≠ _; rw [add_block]; exact hn192_0) | exact hn192_0) (.int .i64 ((rd_T40 l0_1 x17_4).f0))).trans hx192_0; replace hx192_0 := (cell_far (p := ⟨gb191, 1, none⟩) (by first | (rw [add_block]; exact hn192_1) | (show (Addr.add _ _).block ≠ _; rw [add_block]; exact hn192_1) | exact hn192_1) (.int .i64 ((rd_T40 l0_1 x17_4).f1))).trans hx192_0; (try have hy192_0 := fun (n_ : Nat) => (show ((((w100.drewN n_).setCell ⟨gb191, 0, none⟩ (.int .i64 ((rd_T40 l0_1 x17_4).f0))).setCell ⟨gb191, 1, none⟩ (.int .i64 ((rd_T40 l0_1 x17_4).f1)))).cell? _ = some _ from hx192_0)); clear hn192_0 hn192_1; replace p192 := eq_true p192; replace q192 := eq_true q192)))
                   go_roundg k4
                   case measure => have := HK1.out; have := HK2.out; have := HK3.out; have := HK4.out; omega
                   case rel => exact ⟨(x4_4), (x16_4), (wrap64 (x17_4 + 1)), (by first | rfl | (simp; done) | (simp [*]; done)), (by first | rfl | (simp; done) | (simp [*]; done)), H', ⟨by have := HK1.out; have := HK2.out; have := HK3.out; have := HK4.out; omega⟩, ⟨by (try simp only [hl11_2]); (with_reducible repeat (first | apply Kd.R_alloc | apply Kd.R_drewN | apply Kd.R_drew)); exact Kd.R_mono (Kd.R_far (p := ⟨gb191, 1, none⟩) (Kd.R_far (p := ⟨gb191, 0, none⟩) (Kd.R_types HO_11.out BK191.out (by decide)) (fun _ hk => hk.2) (.int .i64 ((rd_T40 l0_1 x17_4).f0))) (fun _ hk => hk.2) (.int .i64 ((rd_T40 l0_1 x17_4).f1))) (fun _ hk => hk.1)⟩, ⟨by (try simp only [hl11_2]); (with_reducible repeat (first | apply Kd.R_alloc | apply Kd.R_drewN | apply Kd.R_drew)); exact Kd.R_mono (Kd.R_far (p := ⟨gb191, 1, none⟩) (Kd.R_far (p := ⟨gb191, 0, none⟩) (Kd.R_types HO_16.out BK191.out (by decide)) (fun _ hk => hk.2) (.int .i64 ((rd_T40 l0_1 x17_4).f0))) (fun _ hk => hk.2) (.int .i64 ((rd_T40 l0_1 x17_4).f1))) (fun _ hk => hk.1)⟩, ⟨by (try simp only [hl11_2]); (iterate 2 ((with_reducible repeat first | apply blk_drewN | apply blk_drew | apply blk_alloc); refine blk_far ?_ NB176_191.out _)); (with_reducible repeat first | apply blk_drewN | apply blk_drew | apply blk_alloc); exact BK176.out⟩, ⟨by repeat (first | (with_reducible first | exact HB.out | apply below_alloc | apply pw_below_drewN | apply below_drew1 | refine below_set ?_ GE176.out | refine below_set ?_ GE191.out) | exact HB.out)⟩⟩
                 ·rw [if_neg c69] at H
                  have c69b0 : decide (0 ≤ (rd l1 x17_4)) = false := decide_eq_false c69
                  clear c69
                  have H' := Aside0.mk H
                  clear H
                  have hcz103_0 : wr.cell? ⟨gb176, 0, none⟩ = some (.int .i64 a0_0) := (blk_cell BK176.out 0).trans rfl
                  have hcz103_1 : wr.cell? ⟨gb176, 1, none⟩ = some (.slice A0_1 l0_1.length c0_1) := (blk_cell BK176.out 1).trans rfl
                  have hfz103_0 := blk_frozen BK176.out 0
                  have hfz103_1 := blk_frozen BK176.out 1
                  have p190 : 0 ≤ (x17_4 : Int) := of_decide_eq_true (by first | (with_reducible assumption) | assumption)
                  have q190 : x17_4 < (l0_1.length : Int) := of_decide_eq_true (by first | (with_reducible assumption) | assumption)
                  obtain ⟨ad190, e190, hx190_0, hx190_1⟩ := at_T40 HR0_1.out x17_4 p190 q190
                  cases e190
                  replace hx190_0 := (HB.out.cell (World.block_lt_of_cell? w _ hx190_0)).trans hx190_0
                  replace hx190_1 := (HB.out.cell (World.block_lt_of_cell? w _ hx190_1)).trans hx190_1
                  replace p190 := eq_true p190
                  replace q190 := eq_true q190
                  go_wp2_with (first | ((with_reducible refine gate_dst (N := 18) rfl ?_); refine box_event ?hg (N := 18) ?hd (cs := #[.int .i64 0, .int .i64 0]) (t := 40) ?hr ?_; (case hd => rfl); (case hg => rfl); (case hr => first | (go_simp; done) | (go_simp; rfl)); intro gb191 hg w104 hbox hb; have n0_ := Aside0.mk (Kd.R_below (by (with_reducible repeat (first | apply Kd.R_alloc | apply Kd.R_drewN | apply Kd.R_drew)); exact HO_11.out) hb); have n1_ := Aside0.mk (Kd.R_below (by (with_reducible repeat (first | apply Kd.R_alloc | apply Kd.R_drewN | apply Kd.R_drew)); exact HO_16.out) hb); have n2_ := Aside0.mk (blk_below (by (with_reducible repeat first | apply blk_drewN | apply blk_drew | apply blk_alloc); exact BK176.out) hb); have n3_ := Aside0.mk (below_step (by repeat (first | (with_reducible first | exact HB.out | apply below_alloc | apply pw_below_drewN | apply below_drew1 | refine below_set ?_ GE176.out) | exact HB.out)) hb); have n4_ := Aside0.mk (hbox); have n5_ := Aside0.mk ((by rw [hg]; exact (below_size (by repeat (first | (with_reducible first | exact HB.out | apply below_alloc | apply pw_below_drewN | apply below_drew1 | refine below_set ?_ GE176.out) | exact HB.out))) : w.heap.size ≤ gb191)); have n6_ := n5_; have n7_ := Aside0.mk ((by rw [hg]; exact Nat.ne_of_lt (blk_lt (by (with_reducible repeat first | apply blk_drewN | apply blk_drew | apply blk_alloc); exact BK176.out)) : gb176 ≠ gb191)); have n8_ : Aside0 (gb191 ≠ gb176) := ⟨Ne.symm n7_.out⟩; clear HO_11 HO_16 BK176 HB; have HO_11 := n0_; have HO_16 := n1_; have BK176 := n2_; have HB := n3_; have BK191 := n4_; have GW191 := n5_; have GE191 := n6_; have NB176_191 := n7_; have NB191_176 := n8_; clear n0_ n1_ n2_ n3_ n4_ n5_ n6_ n7_ n8_ hb hbox hg; have hnb105 := NB191_176.out; have hnc105 := NB176_191.out; have hcz106_0 : w104.cell? ⟨gb191, 0, none⟩ = some (.int .i64 0) := (blk_cell BK191.out 0).trans rfl; have hcz106_1 : w104.cell? ⟨gb191, 1, none⟩ = some (.int .i64 0) := (blk_cell BK191.out 1).trans rfl; have hfz106_0 := blk_frozen BK191.out 0; have hfz106_1 := blk_frozen BK191.out 1; have p192 : 0 ≤ (x17_4 : Int) := of_decide_eq_true (by first | (with_reducible assumption) | assumption); have q192 : x17_4 < (l1.length : Int) := of_decide_eq_true (by first | (with_reducible assumption) | assumption); obtain ⟨ad192, e192, hx192_0⟩ := Kd.at_int HR1.out x17_4 p192 q192; cases e192; have hn192_0 : ad192.block ≠ gb191 := Nat.ne_of_lt (Nat.lt_of_lt_of_le (by have := World.block_lt_of_cell? _ _ hx192_0; first | rwa [add_block] at this | exact this) GW191.out); have hn192_1 : ad192.block ≠ gb191 := Nat.ne_of_lt (Nat.lt_of_lt_of_le (by have := World.block_lt_of_cell? _ _ hx192_0; first | rwa [add_block] at this | exact this) GW191.out); replace hx192_0 := (HB.out.cell (World.block_lt_of_cell? w _ hx192_0)).trans hx192_0; replace hx192_0 := (cell_far (p := ⟨gb191, 0, none⟩) (by first | (rw [add_block]; exact hn192_0) | (show (Addr.add _ _).block ≠ _; rw [add_block]; exact hn192_0) | exact hn192_0) (.int .i64 ((rd_T40 l0_1 x17_4).f0))).trans hx192_0; replace hx192_0 := (cell_far (p := ⟨gb191, 1, none⟩) (by first | (rw [add_block]; exact hn192_1) | (show (Addr.add _ _).block ≠ _; rw [add_block]; exact hn192_1) | exact hn192_1) (.int .i64 ((rd_T40 l0_1 x17_4).f1))).trans hx192_0; (try have hy192_0 := fun (n_ : Nat) => (show ((((w104.drewN n_).setCell ⟨gb191, 0, none⟩ (.int .i64 ((rd_T40 l0_1 x17_4).f0))).setCell ⟨gb191, 1, none⟩ (.int .i64 ((rd_T40 l0_1 x17_4).f1)))).cell? _ = some _ from hx192_0)); clear hn192_0 hn192_1; replace p192 := eq_true p192; replace q192 := eq_true q192))
                  repeat (go_quiet (first | ((with_reducible refine gate_dst (N := 18) rfl ?_); refine box_event ?hg (N := 18) ?hd (cs := #[.int .i64 0, .int .i64 0]) (t := 40) ?hr ?_; (case hd => rfl); (case hg => rfl); (case hr => first | (go_simp; done) | (go_simp; rfl)); intro gb191 hg w104 hbox hb; have n0_ := Aside0.mk (Kd.R_below (by (with_reducible repeat (first | apply Kd.R_alloc | apply Kd.R_drewN | apply Kd.R_drew)); exact HO_11.out) hb); have n1_ := Aside0.mk (Kd.R_below (by (with_reducible repeat (first | apply Kd.R_alloc | apply Kd.R_drewN | apply Kd.R_drew)); exact HO_16.out) hb); have n2_ := Aside0.mk (blk_below (by (with_reducible repeat first | apply blk_drewN | apply blk_drew | apply blk_alloc); exact BK176.out) hb); have n3_ := Aside0.mk (below_step (by repeat (first | (with_reducible first | exact HB.out | apply below_alloc | apply pw_below_drewN | apply below_drew1 | refine below_set ?_ GE176.out) | exact HB.out)) hb); have n4_ := Aside0.mk (hbox); have n5_ := Aside0.mk ((by rw [hg]; exact (below_size (by repeat (first | (with_reducible first | exact HB.out | apply below_alloc | apply pw_below_drewN | apply below_drew1 | refine below_set ?_ GE176.out) | exact HB.out))) : w.heap.size ≤ gb191)); have n6_ := n5_; have n7_ := Aside0.mk ((by rw [hg]; exact Nat.ne_of_lt (blk_lt (by (with_reducible repeat first | apply blk_drewN | apply blk_drew | apply blk_alloc); exact BK176.out)) : gb176 ≠ gb191)); have n8_ : Aside0 (gb191 ≠ gb176) := ⟨Ne.symm n7_.out⟩; clear HO_11 HO_16 BK176 HB; have HO_11 := n0_; have HO_16 := n1_; have BK176 := n2_; have HB := n3_; have BK191 := n4_; have GW191 := n5_; have GE191 := n6_; have NB176_191 := n7_; have NB191_176 := n8_; clear n0_ n1_ n2_ n3_ n4_ n5_ n6_ n7_ n8_ hb hbox hg; have hnb105 := NB191_176.out; have hnc105 := NB176_191.out; have hcz106_0 : w104.cell? ⟨gb191, 0, none⟩ = some (.int .i64 0) := (blk_cell BK191.out 0).trans rfl; have hcz106_1 : w104.cell? ⟨gb191, 1, none⟩ = some (.int .i64 0) := (blk_cell BK191.out 1).trans rfl; have hfz106_0 := blk_frozen BK191.out 0; have hfz106_1 := blk_frozen BK191.out 1; have p192 : 0 ≤ (x17_4 : Int) := of_decide_eq_true (by first | (with_reducible assumption) | assumption); have q192 : x17_4 < (l1.length : Int) := of_decide_eq_true (by first | (with_reducible assumption) | assumption); obtain ⟨ad192, e192, hx192_0⟩ := Kd.at_int HR1.out x17_4 p192 q192; cases e192; have hn192_0 : ad192.block ≠ gb191 := Nat.ne_of_lt (Nat.lt_of_lt_of_le (by have := World.block_lt_of_cell? _ _ hx192_0; first | rwa [add_block] at this | exact this) GW191.out); have hn192_1 : ad192.block ≠ gb191 := Nat.ne_of_lt (Nat.lt_of_lt_of_le (by have := World.block_lt_of_cell? _ _ hx192_0; first | rwa [add_block] at this | exact this) GW191.out); replace hx192_0 := (HB.out.cell (World.block_lt_of_cell? w _ hx192_0)).trans hx192_0; replace hx192_0 := (cell_far (p := ⟨gb191, 0, none⟩) (by first | (rw [add_block]; exact hn192_0) | (show (Addr.add _ _).block ≠ _; rw [add_block]; exact hn192_0) | exact hn192_0) (.int .i64 ((rd_T40 l0_1 x17_4).f0))).trans hx192_0; replace hx192_0 := (cell_far (p := ⟨gb191, 1, none⟩) (by first | (rw [add_block]; exact hn192_1) | (show (Addr.add _ _).block ≠ _; rw [add_block]; exact hn192_1) | exact hn192_1) (.int .i64 ((rd_T40 l0_1 x17_4).f1))).trans hx192_0; (try have hy192_0 := fun (n_ : Nat) => (show ((((w104.drewN n_).setCell ⟨gb191, 0, none⟩ (.int .i64 ((rd_T40 l0_1 x17_4).f0))).setCell ⟨gb191, 1, none⟩ (.int .i64 ((rd_T40 l0_1 x17_4).f1)))).cell? _ = some _ from hx192_0)); clear hn192_0 hn192_1; replace p192 := eq_true p192; replace q192 := eq_true q192)); try go_wp2_with (first | ((with_reducible refine gate_dst (N := 18) rfl ?_); refine box_event ?hg (N := 18) ?hd (cs := #[.int .i64 0, .int .i64 0]) (t := 40) ?hr ?_; (case hd => rfl); (case hg => rfl); (case hr => first | (go_simp; done) | (go_simp; rfl)); intro gb191 hg w104 hbox hb; have n0_ := Aside0.mk (Kd.R_below (by (with_reducible repeat (first | apply Kd.R_alloc | apply Kd.R_drewN | apply Kd.R_drew)); exact HO_11.out) hb); have n1_ := Aside0.mk (Kd.R_below (by (with_reducible repeat (first | apply Kd.R_alloc | apply Kd.R_drewN | apply Kd.R_drew)); exact HO_16.out) hb); have n2_ := Aside0.mk (blk_below (by (with_reducible repeat first | apply blk_drewN | apply blk_drew | apply blk_alloc); exact BK176.out) hb); have n3_ := Aside0.mk (below_step (by repeat (first | (with_reducible first | exact HB.out | apply below_alloc | apply pw_below_drewN | apply below_drew1 | refine below_set ?_ GE176.out) | exact HB.out)) hb); have n4_ := Aside0.mk (hbox); have n5_ := Aside0.mk ((by rw [hg]; exact (below_size (by repeat (first | (with_reducible first | exact HB.out | apply below_alloc | apply pw_below_drewN | apply below_drew1 | refine below_set ?_ GE176.out) | exact HB.out))) : w.heap.size ≤ gb191)); have n6_ := n5_; have n7_ := Aside0.mk ((by rw [hg]; exact Nat.ne_of_lt (blk_lt (by (with_reducible repeat first | apply blk_drewN | apply blk_drew | apply blk_alloc); exact BK176.out)) : gb176 ≠ gb191)); have n8_ : Aside0 (gb191 ≠ gb176) := ⟨Ne.symm n7_.out⟩; clear HO_11 HO_16 BK176 HB; have HO_11 := n0_; have HO_16 := n1_; have BK176 := n2_; have HB := n3_; have BK191 := n4_; have GW191 := n5_; have GE191 := n6_; have NB176_191 := n7_; have NB191_176 := n8_; clear n0_ n1_ n2_ n3_ n4_ n5_ n6_ n7_ n8_ hb hbox hg; have hnb105 := NB191_176.out; have hnc105 := NB176_191.out; have hcz106_0 : w104.cell? ⟨gb191, 0, none⟩ = some (.int .i64 0) := (blk_cell BK191.out 0).trans rfl; have hcz106_1 : w104.cell? ⟨gb191, 1, none⟩ = some (.int .i64 0) := (blk_cell BK191.out 1).trans rfl; have hfz106_0 := blk_frozen BK191.out 0; have hfz106_1 := blk_frozen BK191.out 1; have p192 : 0 ≤ (x17_4 : Int) := of_decide_eq_true (by first | (with_reducible assumption) | assumption); have q192 : x17_4 < (l1.length : Int) := of_decide_eq_true (by first | (with_reducible assumption) | assumption); obtain ⟨ad192, e192, hx192_0⟩ := Kd.at_int HR1.out x17_4 p192 q192; cases e192; have hn192_0 : ad192.block ≠ gb191 := Nat.ne_of_lt (Nat.lt_of_lt_of_le (by have := World.block_lt_of_cell? _ _ hx192_0; first | rwa [add_block] at this | exact this) GW191.out); have hn192_1 : ad192.block ≠ gb191 := Nat.ne_of_lt (Nat.lt_of_lt_of_le (by have := World.block_lt_of_cell? _ _ hx192_0; first | rwa [add_block] at this | exact this) GW191.out); replace hx192_0 := (HB.out.cell (World.block_lt_of_cell? w _ hx192_0)).trans hx192_0; replace hx192_0 := (cell_far (p := ⟨gb191, 0, none⟩) (by first | (rw [add_block]; exact hn192_0) | (show (Addr.add _ _).block ≠ _; rw [add_block]; exact hn192_0) | exact hn192_0) (.int .i64 ((rd_T40 l0_1 x17_4).f0))).trans hx192_0; replace hx192_0 := (cell_far (p := ⟨gb191, 1, none⟩) (by first | (rw [add_block]; exact hn192_1) | (show (Addr.add _ _).block ≠ _; rw [add_block]; exact hn192_1) | exact hn192_1) (.int .i64 ((rd_T40 l0_1 x17_4).f1))).trans hx192_0; (try have hy192_0 := fun (n_ : Nat) => (show ((((w104.drewN n_).setCell ⟨gb191, 0, none⟩ (.int .i64 ((rd_T40 l0_1 x17_4).f0))).setCell ⟨gb191, 1, none⟩ (.int .i64 ((rd_T40 l0_1 x17_4).f1)))).cell? _ = some _ from hx192_0)); clear hn192_0 hn192_1; replace p192 := eq_true p192; replace q192 := eq_true q192)))
                  go_roundg k4
                  case measure => have := HK1.out; have := HK2.out; have := HK3.out; have := HK4.out; omega
                  case rel => exact ⟨(x4_4), (x16_4), (wrap64 (x17_4 + 1)), (by first | rfl | (simp; done) | (simp [*]; done)), (by first | rfl | (simp; done) | (simp [*]; done)), H', ⟨by have := HK1.out; have := HK2.out; have := HK3.out; have := HK4.out; omega⟩, ⟨by (try simp only [hl11_2]); (with_reducible repeat (first | apply Kd.R_alloc | apply Kd.R_drewN | apply Kd.R_drew)); exact Kd.R_mono (Kd.R_far (p := ⟨gb191, 1, none⟩) (Kd.R_far (p := ⟨gb191, 0, none⟩) (Kd.R_types HO_11.out BK191.out (by decide)) (fun _ hk => hk.2) (.int .i64 ((rd_T40 l0_1 x17_4).f0))) (fun _ hk => hk.2) (.int .i64 ((rd_T40 l0_1 x17_4).f1))) (fun _ hk => hk.1)⟩, ⟨by (try simp only [hl11_2]); (with_reducible repeat (first | apply Kd.R_alloc | apply Kd.R_drewN | apply Kd.R_drew)); exact Kd.R_mono (Kd.R_far (p := ⟨gb191, 1, none⟩) (Kd.R_far (p := ⟨gb191, 0, none⟩) (Kd.R_types HO_16.out BK191.out (by decide)) (fun _ hk => hk.2) (.int .i64 ((rd_T40 l0_1 x17_4).f0))) (fun _ hk => hk.2) (.int .i64 ((rd_T40 l0_1 x17_4).f1))) (fun _ hk => hk.1)⟩, ⟨by (try simp only [hl11_2]); (iterate 2 ((with_reducible repeat first | apply blk_drewN | apply blk_drew | apply blk_alloc); refine blk_far ?_ NB176_191.out _)); (with_reducible repeat first | apply blk_drewN | apply blk_drew | apply blk_alloc); exact BK176.out⟩, ⟨by repeat (first | (with_reducible first | exact HB.out | apply below_alloc | apply pw_below_drewN | apply below_drew1 | refine below_set ?_ GE176.out | refine below_set ?_ GE191.out) | exact HB.out)⟩⟩
                ·rw [if_neg c68] at H
                 exact absurd H (by simp)
               ·rw [if_neg c67] at H
                exact absurd H (by simp)
              ·rw [if_neg c66] at H
               have c66b0 : decide (x17_4 < (l0_1.length : Int)) = false := decide_eq_false c66
               clear c66
               have H' := Aside0.mk H
               clear H
               have hcz107_0 : wr.cell? ⟨gb176, 0, none⟩ = some (.int .i64 a0_0) := (blk_cell BK176.out 0).trans rfl
               have hcz107_1 : wr.cell? ⟨gb176, 1, none⟩ = some (.slice A0_1 l0_1.length c0_1) := (blk_cell BK176.out 1).trans rfl
               have hfz107_0 := blk_frozen BK176.out 0
               have hfz107_1 := blk_frozen BK176.out 1
               go_wp2
               repeat (go_quiet (fail); try go_wp2)
               go_roundg k4
               case measure => have := HK1.out; have := HK2.out; have := HK3.out; have := HK4.out; omega
               case rel => exact ⟨(x4_4), (x16_4), (by first | rfl | (simp; done) | (simp [*]; done)), H', ⟨by have := HK1.out; have := HK2.out; have := HK3.out; have := HK4.out; omega⟩, ⟨by (try simp only [hl11_2]); (with_reducible repeat (first | apply Kd.R_alloc | apply Kd.R_drewN | apply Kd.R_drew)); exact HO_11.out⟩, ⟨by (try simp only [hl11_2]); (with_reducible repeat (first | apply Kd.R_alloc | apply Kd.R_drewN | apply Kd.R_drew)); exact HO_16.out⟩, ⟨by (try simp only [hl11_2]); (with_reducible repeat first | apply blk_drewN | apply blk_drew | apply blk_alloc); exact BK176.out⟩, ⟨by repeat (first | (with_reducible first | exact HB.out | apply below_alloc | apply pw_below_drewN | apply below_drew1 | refine below_set ?_ GE176.out) | exact HB.out)⟩⟩
     ·rw [if_neg c12] at H
      exact absurd H (by simp)
    ·rw [if_neg c11] at H
     exact absurd H (by simp)

end Go.Proofs.Ytofhgmdehglhgaa.PAll
