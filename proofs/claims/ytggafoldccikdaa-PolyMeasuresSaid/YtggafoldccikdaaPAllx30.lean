import Derived.Test.YtggafoldccikdaaPAllx0
import Derived.Test.YtggafoldccikdaaPAllx1
namespace Go.Proofs.Ytggafoldccikdaa.PAll
open Go.RowKit Go.Proofs.YtggafoldccikdaaW.PrintWords Go.Proofs.YtggafoldccikdaaW.PrintLast Go.Proofs.YtggafoldccikdaaW.PrintMore
attribute [local go_sem] max2_int min2_int max_two min_two max_three min_three max_four min_four
set_option linter.unusedVariables false
set_option linter.unusedSimpArgs false
attribute [local irreducible] Calls

attribute [local go_sem high] eqA30
/-! ### mapmakerref11_Segs: function 16 -/
mutual
def mapmakerref11_Segs.l0 : Nat → List (S30) → List (S45) → Int → Option ((List (S45)))
 | 0, _, _, _ => none
 | k + 1, x0, x3, x4 => if x4 < (x0.length : Int) then ((mapmakerref08_All.f k x0).bind fun t248 => (mapmakerref11_Segs.j1 k x0 x3 x4 t248)) else (mapmakerref11_Segs.j1 k x0 x3 x4 false)
def mapmakerref11_Segs.j1 : Nat → List (S30) → List (S45) → Int → Bool → Option ((List (S45)))
 | 0, _, _, _, _ => none
 | k + 1, x0, x3, x4, x14 => if x14 = true then (if 0 ≤ x4 then (if x4 < (x0.length : Int) then (if (x0.length : Int) = 0 then (none) else (if 0 ≤ (Int.tmod (wrap64 (x4 + 1)) (x0.length : Int)) then (if (Int.tmod (wrap64 (x4 + 1)) (x0.length : Int)) < (x0.length : Int) then (if (!(((rd_T30 x0 x4).f0) == ((rd_T30 x0 (Int.tmod (wrap64 (x4 + 1)) (x0.length : Int))).f0)) || (!(((rd_T30 x0 x4).f1) == ((rd_T30 x0 (Int.tmod (wrap64 (x4 + 1)) (x0.length : Int))).f1)))) = true then ((mapmakerref09_Of.f ((rd_T30 x0 x4).f0) ((rd_T30 x0 x4).f1) ((rd_T30 x0 (Int.tmod (wrap64 (x4 + 1)) (x0.length : Int))).f0) ((rd_T30 x0 (Int.tmod (wrap64 (x4 + 1)) (x0.length : Int))).f1)).bind fun bt253 => (if x3.length < 4398046511104 then (mapmakerref11_Segs.l0 k x0 (x3 ++ [(⟨(⟨bt253.1, bt253.2.1⟩ : S30), (⟨bt253.2.2.1, bt253.2.2.2⟩ : S30)⟩ : S45)]) (wrap64 (x4 + 1))) else (none))) else (mapmakerref11_Segs.l0 k x0 x3 (wrap64 (x4 + 1)))) else (none)) else (none))) else (none)) else (none)) else (some x3)
end
def mapmakerref11_Segs.f (k : Nat) (l0 : List (S30)) : Option ((List (S45))) := mapmakerref11_Segs.l0 k l0 ([] : List (S45)) 0
theorem mapmakerref11_Segs.mono_l : ∀ k, (∀ y0 y1 y2, LeO (mapmakerref11_Segs.l0 k y0 y1 y2) (mapmakerref11_Segs.l0 (k + 1) y0 y1 y2)) ∧ (∀ y0 y1 y2 y3, LeO (mapmakerref11_Segs.j1 k y0 y1 y2 y3) (mapmakerref11_Segs.j1 (k + 1) y0 y1 y2 y3))
 | 0 => ⟨fun _ _ _ r h => by simp [mapmakerref11_Segs.l0] at h, fun _ _ _ _ r h => by simp [mapmakerref11_Segs.j1] at h⟩
 | k + 1 => by
  obtain ⟨ih0, ih1⟩ := mapmakerref11_Segs.mono_l k
  refine ⟨?_, ?_⟩
  ·intro y0 y1 y2
   unfold mapmakerref11_Segs.l0
   repeat' first
   | (with_reducible exact ih0 _ _ _)
   | (with_reducible exact ih1 _ _ _ _)
   | (with_reducible exact mapmakerref08_All.mono _ _)
   | (with_reducible exact LeO.refl _)
   | (with_reducible exact LeO.none _)
   | (with_reducible refine LeO.ite ?_ ?_)
   | (with_reducible refine LeO.bind ?_ (fun _ => ?_))
   | exact ih0 _ _ _
   | exact ih1 _ _ _ _
   | exact mapmakerref08_All.mono _ _
   | exact LeO.none _
   | refine LeO.ite ?_ ?_
   | refine LeO.bind ?_ (fun _ => ?_)
  ·intro y0 y1 y2 y3
   unfold mapmakerref11_Segs.j1
   repeat' first
   | (with_reducible exact ih0 _ _ _)
   | (with_reducible exact ih1 _ _ _ _)
   | (with_reducible exact mapmakerref08_All.mono _ _)
   | (with_reducible exact LeO.refl _)
   | (with_reducible exact LeO.none _)
   | (with_reducible refine LeO.ite ?_ ?_)
   | (with_reducible refine LeO.bind ?_ (fun _ => ?_))
   | exact ih0 _ _ _
   | exact ih1 _ _ _ _
   | exact mapmakerref08_All.mono _ _
   | exact LeO.none _
   | refine LeO.ite ?_ ?_
   | refine LeO.bind ?_ (fun _ => ?_)
theorem mapmakerref11_Segs.mono : ∀ a0 k, LeO (mapmakerref11_Segs.f k a0) (mapmakerref11_Segs.f (k + 1) a0) := by
 intro a0 k
 obtain ⟨ih0, ih1⟩ := mapmakerref11_Segs.mono_l k
 unfold mapmakerref11_Segs.f
 repeat' first
   | (with_reducible exact ih0 _ _ _)
   | (with_reducible exact ih1 _ _ _ _)
   | (with_reducible exact mapmakerref08_All.mono _ _)
   | (with_reducible exact LeO.refl _)
   | (with_reducible exact LeO.none _)
   | (with_reducible refine LeO.ite ?_ ?_)
   | (with_reducible refine LeO.bind ?_ (fun _ => ?_))
   | exact ih0 _ _ _
   | exact ih1 _ _ _ _
   | exact mapmakerref08_All.mono _ _
   | exact LeO.none _
   | refine LeO.ite ?_ ?_
   | refine LeO.bind ?_ (fun _ => ?_)
def mapmakerref11_Segs.T5 : Bool × List (List Nat × List Nat) := (true, [([], []), ([], []), ([0, 1], [0, 1]), ([2], [2]), ([], []), ([], []), ([5], [5]), ([], []), ([7], [7]), ([6, 8], [6, 8]), ([4, 9], [4, 9]), ([10], [10]), ([], []), ([], []), ([12, 3, 0, 1, 2, 3, 12, 13], [3, 12]), ([13, 11, 14, 0, 1, 2, 3, 4, 5, 6, 7, 8, 9, 10, 11, 12, 13, 14], [11, 13])])
def mapmakerref11_Segs.B5 : List Nat := [0, 0, 3, 7, 0, 0, 32, 0, 128, 480, 1008, 2032, 0, 0, 12303, 32767]
theorem mapmakerref11_Segs.tab5 : rtab .any (opsOf Try.f16 5) = mapmakerref11_Segs.T5 := by kernel_rfl
theorem mapmakerref11_Segs.bits5 : waitsOk mapmakerref11_Segs.T5.2 mapmakerref11_Segs.B5 = true := by kernel_rfl
set_option maxHeartbeats 8000000 in
set_option maxRecDepth 100000 in
theorem mapmakerref11_Segs.calls (k : Nat) (A0 : Option Addr) (c0 : Nat) (l0 : List (S30)) (r : List (S45)) (w : World) (hr0 : Kd.C k30 w A0 l0.length l0) (hc0 : l0.length ≤ c0) (h : mapmakerref11_Segs.f k l0 = some r) :
  Calls Try.prog 16 #[.slice A0 l0.length c0] w fun e w' => ∃ v0_ : Value, e = .returned (v0_) ∧ Kd.R k45 45 w' w.heap.size (fun _ => True) v0_ r ∧ Below w.heap.size w w' := by
 have hu30 := Try.underlying30; have HR0 := Aside0.mk hr0; have HC0 := Aside0.mk hc0; clear hr0 hc0; have HB := Aside0.mk (Below.refl w.heap.size w); have H : (mapmakerref11_Segs.l0 k l0 ([] : List (S45)) 0) = some r := h; clear h; have H' := Aside0.mk H; clear H
 go_enter Try.func16, Try.ntmps16
 go_wp2
 go_loopg [3, 4] k (fun kq v3 v4 w' => ∃ (x3_1 : List (S45)) (x4_1 : Int), v4 = .int .i64 x4_1 ∧ Aside0 (mapmakerref11_Segs.l0 kq l0 x3_1 x4_1 = some r) ∧ Aside0 (kq ≤ k) ∧ Aside0 (Kd.R k45 45 w' w.heap.size (fun _ => True) v3 x3_1) ∧ Aside0 (Below w.heap.size w w'))
 case atStart => exact ⟨(([] : List (S45))), (0), (by first | rfl | (simp; done) | (simp [*]; done)), H', ⟨Nat.le_refl _⟩, ⟨by first | exact Kd.R_nil _ _ _ _ _ | exact Kd.N_nil _ _ _ _ _ | exact Kd.V_nil _ _ _ _ _ | exact Kd.Q_nil _ _ _ _ _ | exact Kd.S_nil _ _ _ _ _⟩, ⟨bB HB.out⟩⟩
 case round =>
  clear H'
  try clear c1
  obtain ⟨x3_1, x4_1, rfl, HA, HK1, HO_3, HB⟩ := hrel
  cases gk with
  | zero => exact absurd HA.out (by simp [mapmakerref11_Segs.l0])
  | succ k1 =>
   have H := HA.out; clear HA; simp only [mapmakerref11_Segs.l0] at H; have HC2 := Aside0.mk H; clear H
   go_upto_region 3 with (fail)
   go_cut [14] (fun v14 wc => ∃ (kq : Nat) (x14_1 : Bool), v14 = .bool x14_1 ∧ Aside0 (mapmakerref11_Segs.j1 kq l0 x3_1 x4_1 x14_1 = some r) ∧ Aside0 (kq ≤ k1) ∧ Aside0 (Kd.R k45 45 wc w.heap.size (fun _ => True) u3 x3_1) ∧ Aside0 (Below w.heap.size w wc))
   case first =>
    have H := HC2.out; clear HC2
    by_cases c3 : x4_1 < (l0.length : Int)
    ·rw [if_pos c3] at H
     have c3b0 : decide (x4_1 < (l0.length : Int)) = true := decide_eq_true c3; clear c3; (first | rw [c3b0] | (simp only [i64_w, i32_w]; rw [c3b0]) | skip); replace H := Option.bind_eq_some_iff.mp H; obtain ⟨t248, A40, H⟩ := H; replace H : (mapmakerref11_Segs.j1 k1 l0 x3_1 x4_1 t248) = some r := H; have A4 := Aside0.mk A40; clear A40; have H' := Aside0.mk H; clear H
     go_wp2_with (first | (go_at_call 31; (with_reducible refine (mapmakerref08_All.calls k1 _ _ l0 t248 _ ?side1 ?side2 A4.out).mono ?_); (case side1 => repeat (first | exact (Kd.C_below HR0.out HB.out) | (with_reducible refine Kd.C_alloc ?_ _) | (with_reducible refine Kd.C_drewN ?_ _) | (with_reducible refine Kd.C_drew ?_))); (case side2 => exact HC0.out); rintro e w5 ⟨rfl, hb⟩; have n0_ := Aside0.mk (Kd.R_below (by (with_reducible repeat (first | apply Kd.R_alloc | apply Kd.R_drewN | apply Kd.R_drew)); exact HO_3.out) hb); have n1_ := Aside0.mk (below_step (bB HB.out) hb); clear HO_3 HB; have HO_3 := n0_; have HB := n1_; clear n0_ n1_; (try clear hb); (try clear hb2); (try clear hk); (try clear hi)))
     go_meet
     case rel => exact ⟨_, (t248), (by first | rfl | (simp; done) | (simp [*]; done)), H', ⟨by have := HK1.out; first | omega | exact Nat.le_refl _⟩, ⟨by (with_reducible repeat (first | apply Kd.R_alloc | apply Kd.R_drewN | apply Kd.R_drew)); exact HO_3.out⟩, ⟨bB HB.out⟩⟩
    ·rw [if_neg c3] at H
     have c3b0 : decide (x4_1 < (l0.length : Int)) = false := decide_eq_false c3; clear c3; (first | rw [c3b0] | (simp only [i64_w, i32_w]; rw [c3b0]) | skip); have H' := Aside0.mk H; clear H
     go_wp2
     go_meet
     case rel => exact ⟨_, (false), (by first | rfl | (simp; done) | (simp [*]; done)), H', ⟨by have := HK1.out; first | omega | exact Nat.le_refl _⟩, ⟨by (with_reducible repeat (first | apply Kd.R_alloc | apply Kd.R_drewN | apply Kd.R_drew)); exact HO_3.out⟩, ⟨bB HB.out⟩⟩
   case rest =>
    clear HC2
    try clear c1
    try clear p2
    try clear c3
    try clear c3b0
    obtain ⟨kq, x14_1, rfl, HA, HJ1, HO_3, HB⟩ := hcut
    cases kq with
    | zero => exact absurd HA.out (by simp [mapmakerref11_Segs.j1])
    | succ kj1 =>
     have H := HA.out; clear HA; simp only [mapmakerref11_Segs.j1] at H
     by_cases c6 : x14_1 = true
     ·subst c6; have H1 : (if 0 ≤ x4_1 then (if x4_1 < (l0.length : Int) then (if (l0.length : Int) = 0 then (none) else (if 0 ≤ (Int.tmod (wrap64 (x4_1 + 1)) (l0.length : Int)) then (if (Int.tmod (wrap64 (x4_1 + 1)) (l0.length : Int)) < (l0.length : Int) then (if (!(((rd_T30 l0 x4_1).f0) == ((rd_T30 l0 (Int.tmod (wrap64 (x4_1 + 1)) (l0.length : Int))).f0)) || (!(((rd_T30 l0 x4_1).f1) == ((rd_T30 l0 (Int.tmod (wrap64 (x4_1 + 1)) (l0.length : Int))).f1)))) = true then ((mapmakerref09_Of.f ((rd_T30 l0 x4_1).f0) ((rd_T30 l0 x4_1).f1) ((rd_T30 l0 (Int.tmod (wrap64 (x4_1 + 1)) (l0.length : Int))).f0) ((rd_T30 l0 (Int.tmod (wrap64 (x4_1 + 1)) (l0.length : Int))).f1)).bind fun bt253 => (if x3_1.length < 4398046511104 then (mapmakerref11_Segs.l0 kj1 l0 (x3_1 ++ [(⟨(⟨bt253.1, bt253.2.1⟩ : S30), (⟨bt253.2.2.1, bt253.2.2.2⟩ : S30)⟩ : S45)]) (wrap64 (x4_1 + 1))) else (none))) else (mapmakerref11_Segs.l0 kj1 l0 x3_1 (wrap64 (x4_1 + 1)))) else (none)) else (none))) else (none)) else (none)) = some r := by rw [if_pos rfl] at H; exact H
      clear H; have H := H1; clear H1
      by_cases c7 : 0 ≤ x4_1
      ·rw [if_pos c7] at H
       have c7b0 : decide (0 ≤ x4_1) = true := decide_eq_true c7; clear c7
       by_cases c8 : x4_1 < (l0.length : Int)
       ·rw [if_pos c8] at H
        have c8b0 : decide (x4_1 < (l0.length : Int)) = true := decide_eq_true c8; clear c8
        by_cases c9 : (l0.length : Int) = 0
        ·rw [if_pos c9] at H
         exact absurd H (by simp)
        ·rw [if_neg c9] at H
         have c9b0 : ((l0.length : Int) == 0) = false := beq_eq_false_iff_ne.mpr c9; have c9b1 : ((l0.length : Int) != 0) = true := bne_iff_ne.mpr c9; have c9b2 : ¬ (l0 = []) := fun h_ => c9 (by rw [h_]; rfl)
         obtain ⟨ji10, hji10⟩ : ∃ j_ : Int, (Int.tmod (wrap64 (x4_1 + 1)) (l0.length : Int)) = j_ := ⟨_, rfl⟩; replace H : (if 0 ≤ (ji10) then (if (ji10) < (l0.length : Int) then (if (!(((rd_T30 l0 x4_1).f0) == ((rd_T30 l0 (ji10)).f0)) || (!(((rd_T30 l0 x4_1).f1) == ((rd_T30 l0 (ji10)).f1)))) = true then ((mapmakerref09_Of.f ((rd_T30 l0 x4_1).f0) ((rd_T30 l0 x4_1).f1) ((rd_T30 l0 (ji10)).f0) ((rd_T30 l0 (ji10)).f1)).bind fun bt253 => (if x3_1.length < 4398046511104 then (mapmakerref11_Segs.l0 kj1 l0 (x3_1 ++ [(⟨(⟨bt253.1, bt253.2.1⟩ : S30), (⟨bt253.2.2.1, bt253.2.2.2⟩ : S30)⟩ : S45)]) (wrap64 (x4_1 + 1))) else (none))) else (mapmakerref11_Segs.l0 kj1 l0 x3_1 (wrap64 (x4_1 + 1)))) else (none)) else (none)) = some r := by first | (rw [hji10] at H; exact H) | (simp only [hji10] at H ⊢; exact H)
         by_cases c11 : 0 ≤ (ji10)
         ·rw [if_pos c11] at H
          have c11b0 : decide (0 ≤ (ji10)) = true := decide_eq_true c11; clear c11
          by_cases c12 : (ji10) < (l0.length : Int)
          ·rw [if_pos c12] at H
           have c12b0 : decide ((ji10) < (l0.length : Int)) = true := decide_eq_true c12; clear c12
           by_cases c13 : (!(((rd_T30 l0 x4_1).f0) == ((rd_T30 l0 (ji10)).f0)) || (!(((rd_T30 l0 x4_1).f1) == ((rd_T30 l0 (ji10)).f1)))) = true
           ·rw [if_pos c13] at H
            have c13b0 : (!(((rd_T30 l0 x4_1).f0) == ((rd_T30 l0 (ji10)).f0)) || (!(((rd_T30 l0 x4_1).f1) == ((rd_T30 l0 (ji10)).f1)))) = true := c13; clear c13; replace H := Option.bind_eq_some_iff.mp H; obtain ⟨⟨t253, t254, t255, t256⟩, A140, H⟩ := H; replace H : (if x3_1.length < 4398046511104 then (mapmakerref11_Segs.l0 kj1 l0 (x3_1 ++ [(⟨(⟨t253, t254⟩ : S30), (⟨t255, t256⟩ : S30)⟩ : S45)]) (wrap64 (x4_1 + 1))) else (none)) = some r := H; have A14 := Aside0.mk A140; clear A140
            by_cases c15 : x3_1.length < 4398046511104
            ·rw [if_pos c15] at H
             have LMc15 := Aside0.mk c15; clear c15; obtain ⟨y257, hy257⟩ : ∃ y_ : List (S45), y_ = (x3_1 ++ [(⟨(⟨t253, t254⟩ : S30), (⟨t255, t256⟩ : S30)⟩ : S45)]) := ⟨_, rfl⟩; replace H : (mapmakerref11_Segs.l0 kj1 l0 y257 (wrap64 (x4_1 + 1))) = some r := by first | (rw [hy257]; with_reducible exact H) | (have H2_ := (Option.bind_some _ _).symm.trans H; rw [hy257]; with_reducible exact H2_) | (have H2_ := (Option.bind_some _ _).symm.trans H; with_reducible exact H2_) | with_reducible exact H | (rw [hy257]; exact H) | exact H
             have Ny257 := Aside0.mk hy257; clear hy257; have H' := Aside0.mk H; clear H
             try go_wp2
             have n0_ := Aside0.mk (Kd.R_drew HO_3.out); have n1_ := Aside0.mk (below_drew1 HB.out); clear HO_3 HB; have HO_3 := n0_; have HB := n1_; clear n0_ n1_; have p249 : 0 ≤ (x4_1 : Int) := of_decide_eq_true (by first | (with_reducible assumption) | assumption); have q249 : x4_1 < (l0.length : Int) := of_decide_eq_true (by first | (with_reducible assumption) | assumption); obtain ⟨ad249, e249, hx249_0, hx249_1⟩ := at_T30 HR0.out x4_1 p249 q249; have hw249_1 := hx249_1; have hw249_0 := hx249_0
             cases e249
             replace hx249_0 := (HB.out.cell (World.block_lt_of_cell? w _ hx249_0)).trans hx249_0; replace hx249_1 := (HB.out.cell (World.block_lt_of_cell? w _ hx249_1)).trans hx249_1; replace p249 := eq_true p249; replace q249 := eq_true q249; have p250 : 0 ≤ ((ji10) : Int) := of_decide_eq_true (by first | (with_reducible assumption) | assumption); have q250 : (ji10) < (l0.length : Int) := of_decide_eq_true (by first | (with_reducible assumption) | assumption); obtain ⟨ad250, e250, hx250_0, hx250_1⟩ := at_T30 HR0.out (ji10) p250 q250; have hw250_1 := hx250_1; have hw250_0 := hx250_0; obtain rfl : ad249 = ad250 := (by injection e250); replace hx250_0 := (HB.out.cell (World.block_lt_of_cell? w _ hx250_0)).trans hx250_0; replace hx250_1 := (HB.out.cell (World.block_lt_of_cell? w _ hx250_1)).trans hx250_1; replace p250 := eq_true p250; replace q250 := eq_true q250; refine start_ (n := 16) (S := fun w' => w'.cell? (ad249.add ((x4_1).toNat * 2)) = some (.int .i64 ((rd_T30 l0 x4_1).f0)) ∧ w'.cell? ⟨(ad249.add ((x4_1).toNat * 2)).block, (ad249.add ((x4_1).toNat * 2)).off + 1, none⟩ = some (.int .i64 ((rd_T30 l0 x4_1).f1)) ∧ w'.cell? (ad249.add (((ji10)).toNat * 2)) = some (.int .i64 ((rd_T30 l0 (ji10)).f0)) ∧ w'.cell? ⟨(ad249.add (((ji10)).toNat * 2)).block, (ad249.add (((ji10)).toNat * 2)).off + 1, none⟩ = some (.int .i64 ((rd_T30 l0 (ji10)).f1))) (ds := []) #[F, F, F, F, F, F, F, F, F, F, F, F, F, F, F, F] (by kernel_rfl) rfl rfl ⟨((HB.out.cell (World.block_lt_of_cell? w _ hw249_0)).trans hw249_0), ((HB.out.cell (World.block_lt_of_cell? w _ hw249_1)).trans hw249_1), ((HB.out.cell (World.block_lt_of_cell? w _ hw250_0)).trans hw250_0), ((HB.out.cell (World.block_lt_of_cell? w _ hw250_1)).trans hw250_1)⟩ (fun hHeld => ?_); refine with_tabW mapmakerref11_Segs.tab5 mapmakerref11_Segs.bits5 (fun HT_ HW_ => ?_); generalize wc.drew = w16 at HO_3 HB hx249_0 hx249_1 hx250_0 hx250_1 hHeld ⊢
             refine pure_ (i := 0) (N := some 17) (v := ?_) (a' := ?_) #[T, F, F, F, F, F, F, F, F, F, F, F, F, F, F, F] rfl rfl (any_of HT_.out (by kernel_rfl)) (fun _ _ _ h => h) (Or.inl ⟨by rfl, ?_⟩) ?_ ?_; rotate_left
             ·intro w'; go_simp; with_reducible rfl
             rotate_left
             ·simp only [Act.put, List.setIfInBounds_toArray, List.set_cons_zero, List.set_cons_succ, i64_w, i32_w]; rfl
             refine pure_ (i := 1) (N := some 18) (v := ?_) (a' := ?_) #[T, T, F, F, F, F, F, F, F, F, F, F, F, F, F, F] rfl rfl (any_of HT_.out (by kernel_rfl)) (fun _ _ _ h => h) (Or.inl ⟨by rfl, ?_⟩) ?_ ?_; rotate_left
             ·intro w'; go_simp; with_reducible rfl
             rotate_left
             ·simp only [Act.put, List.setIfInBounds_toArray, List.set_cons_zero, List.set_cons_succ, i64_w, i32_w]; rfl
             refine pure_ (i := 2) (N := some 19) (v := ?_) (a' := ?_) #[T, T, T, F, F, F, F, F, F, F, F, F, F, F, F, F] rfl rfl (any_of HT_.out (by kernel_rfl)) (fun _ _ _ h => h) (Or.inl ⟨by rfl, ?_⟩) ?_ ?_; rotate_left
             ·intro w'; go_simp; with_reducible rfl
             rotate_left
             ·simp only [Act.put, List.setIfInBounds_toArray, List.set_cons_zero, List.set_cons_succ, i64_w, i32_w]; rfl
             refine pure_ (i := 4) (N := some 21) (v := ?_) (a' := ?_) #[T, T, T, F, T, F, F, F, F, F, F, F, F, F, F, F] rfl rfl (any_of HT_.out (by kernel_rfl)) (fun _ _ _ h => h) (Or.inl ⟨by rfl, ?_⟩) ?_ ?_; rotate_left
             ·intro w'; go_simp; with_reducible rfl
             rotate_left
             ·simp only [Act.put, List.setIfInBounds_toArray, List.set_cons_zero, List.set_cons_succ, i64_w, i32_w]; rfl
             refine pure_ (i := 5) (N := some 22) (v := ?_) (a' := ?_) #[T, T, T, F, T, T, F, F, F, F, F, F, F, F, F, F] rfl rfl (any_of HT_.out (by kernel_rfl)) (fun _ _ _ h => h) (Or.inl ⟨by rfl, ?_⟩) ?_ ?_; rotate_left
             ·intro w'; go_simp; with_reducible rfl
             rotate_left
             ·simp only [Act.put, List.setIfInBounds_toArray, List.set_cons_zero, List.set_cons_succ, i64_w, i32_w]; rfl
             refine pure_ (i := 6) (N := some 23) (v := ?_) (a' := ?_) #[T, T, T, F, T, T, T, F, F, F, F, F, F, F, F, F] rfl rfl (any_of HT_.out (by kernel_rfl)) (fun _ _ _ h => h) (Or.inl ⟨by rfl, ?_⟩) ?_ ?_; rotate_left
             ·intro w'; go_simp; with_reducible rfl
             rotate_left
             ·simp only [Act.put, List.setIfInBounds_toArray, List.set_cons_zero, List.set_cons_succ, i64_w, i32_w]; rfl
             refine pure_ (i := 7) (N := some 24) (v := ?_) (a' := ?_) #[T, T, T, F, T, T, T, T, F, F, F, F, F, F, F, F] rfl rfl (any_of HT_.out (by kernel_rfl)) (fun _ _ _ h => h) (Or.inl ⟨by rfl, ?_⟩) ?_ ?_; rotate_left
             ·intro w'; go_simp; with_reducible rfl
             rotate_left
             ·simp only [Act.put, List.setIfInBounds_toArray, List.set_cons_zero, List.set_cons_succ, i64_w, i32_w]; rfl
             refine pure_ (i := 8) (N := some 25) (v := ?_) (a' := ?_) #[T, T, T, F, T, T, T, T, T, F, F, F, F, F, F, F] rfl rfl (any_of HT_.out (by kernel_rfl)) (fun _ _ _ h => h) (Or.inl ⟨by rfl, ?_⟩) ?_ ?_; rotate_left
             ·intro w'; go_simp; with_reducible rfl
             rotate_left
             ·simp only [Act.put, List.setIfInBounds_toArray, List.set_cons_zero, List.set_cons_succ, i64_w, i32_w]; rfl
             refine pure_ (i := 9) (N := some 26) (v := ?_) (a' := ?_) #[T, T, T, F, T, T, T, T, T, T, F, F, F, F, F, F] rfl rfl (any_of HT_.out (by kernel_rfl)) (fun _ _ _ h => h) (Or.inl ⟨by rfl, ?_⟩) ?_ ?_; rotate_left
             ·intro w'; go_simp; with_reducible rfl
             rotate_left
             ·simp only [Act.put, List.setIfInBounds_toArray, List.set_cons_zero, List.set_cons_succ, i64_w, i32_w]; rfl
             refine pure_ (i := 10) (N := some 27) (v := ?_) (a' := ?_) #[T, T, T, F, T, T, T, T, T, T, T, F, F, F, F, F] rfl rfl (any_of HT_.out (by kernel_rfl)) (fun _ _ _ h => h) (Or.inl ⟨by rfl, ?_⟩) ?_ ?_; rotate_left
             ·intro w'; go_simp; with_reducible rfl
             rotate_left
             ·simp only [Act.put, List.setIfInBounds_toArray, List.set_cons_zero, List.set_cons_succ, i64_w, i32_w]; rfl
             refine take_ (i := 3) (N := some 20) (v := ?_) (a' := ?_) #[T, T, T, T, T, T, T, T, T, T, T, F, F, F, F, F] rfl rfl (take_ofW HT_.out HW_.out (by kernel_rfl)) (fun _ _ _ h => h) (Or.inl ⟨by rfl, ?_⟩) hHeld ?_ ?_; rotate_left
             ·rintro w' ⟨s0, s1, s2, s3⟩; go_simp; with_reducible rfl
             rotate_left
             ·simp only [Act.put, List.setIfInBounds_toArray, List.set_cons_zero, List.set_cons_succ, i64_w, i32_w]; rfl
             refine take_ (i := 11) (N := some 28) (v := ?_) (a' := ?_) #[T, T, T, T, T, T, T, T, T, T, T, T, F, F, F, F] rfl rfl (take_ofW HT_.out HW_.out (by kernel_rfl)) (fun _ _ _ h => h) (Or.inl ⟨by rfl, ?_⟩) hHeld ?_ ?_; rotate_left
             ·rintro w' ⟨s0, s1, s2, s3⟩; go_simp; with_reducible rfl
             rotate_left
             ·simp only [Act.put, List.setIfInBounds_toArray, List.set_cons_zero, List.set_cons_succ, i64_w, i32_w]; rfl
             refine join_ (σ := Nat × Nat) 2 #[T, T, T, T, T, T, T, T, T, T, T, T, T, T, F, F] (fun s_ => [(5, .pointer (some ⟨s_.1, 0, none⟩)), (6, .pointer (some ⟨s_.2, 0, none⟩))]) (fun s_ w' => (w'.cell? (ad249.add ((x4_1).toNat * 2)) = some (.int .i64 ((rd_T30 l0 x4_1).f0)) ∧ w'.cell? ⟨(ad249.add ((x4_1).toNat * 2)).block, (ad249.add ((x4_1).toNat * 2)).off + 1, none⟩ = some (.int .i64 ((rd_T30 l0 x4_1).f1)) ∧ w'.cell? (ad249.add (((ji10)).toNat * 2)) = some (.int .i64 ((rd_T30 l0 (ji10)).f0)) ∧ w'.cell? ⟨(ad249.add (((ji10)).toNat * 2)).block, (ad249.add (((ji10)).toNat * 2)).off + 1, none⟩ = some (.int .i64 ((rd_T30 l0 (ji10)).f1))) ∧ (Kd.R k45 45 w' w.heap.size (fun _ => True) u3 x3_1) ∧ (w'.heap[s_.1]? = some (.cells #[.int .i64 0, .int .i64 0] 30 (0, 0))) ∧ (w'.heap[s_.2]? = some (.cells #[.int .i64 0, .int .i64 0] 30 (0, 0))) ∧ (w.heap.size ≤ s_.1) ∧ (w.heap.size ≤ s_.1) ∧ (s_.2 ≠ s_.1) ∧ (s_.1 ≠ s_.2) ∧ (w.heap.size ≤ s_.2) ∧ (w.heap.size ≤ s_.2) ∧ (Below w.heap.size w w')) ?_ ?_; rotate_left
             ·intro hCont; refine two_ (i := 12) (j := 13) (Ni := some 5) (Nj := some 6) #[T, T, T, T, T, T, T, T, T, T, T, T, T, F, F, F] #[T, T, T, T, T, T, T, T, T, T, T, T, F, T, F, F] rfl rfl rfl rfl (two_of HT_.out (by kernel_rfl)) (by decide) (by decide) (fun K hK => ?_) (fun K hK => ?_)
              ·skip; refine box_step ?hg (N := 5) ?hd (cs := #[.int .i64 0, .int .i64 0]) (t := 30) ?hr ?_; (case hd => rfl); (case hg => rfl); (case hr => first | (go_simp; done) | (go_simp; rfl)); intro gb251 hg w17 hbox hb; have n0_ := Aside0.mk (Kd.R_below (by (with_reducible repeat (first | apply Kd.R_alloc | apply Kd.R_drewN | apply Kd.R_drew)); exact HO_3.out) hb); have n1_ := Aside0.mk (below_step (bB HB.out) hb); have n2_ := Aside0.mk (hbox); have n3_ := Aside0.mk ((by rw [hg]; exact (below_size (bB HB.out)) : w.heap.size ≤ gb251)); have n4_ := n3_; clear HO_3 HB; have HO_3 := n0_; have HB := n1_; have BK251 := n2_; have GW251 := n3_; have GE251 := n4_; clear n0_ n1_ n2_ n3_ n4_ hb hbox hg; refine hK.out _ _ ⟨((HB.out.cell (World.block_lt_of_cell? w _ hw249_0)).trans hw249_0), ((HB.out.cell (World.block_lt_of_cell? w _ hw249_1)).trans hw249_1), ((HB.out.cell (World.block_lt_of_cell? w _ hw250_0)).trans hw250_0), ((HB.out.cell (World.block_lt_of_cell? w _ hw250_1)).trans hw250_1)⟩ (fun hHeld => ?_); clear hK K; refine norm_ (a' := ?_) ?_ ?_; rotate_left
               ·show Act.put _ (some 5) _ = _; simp only [Act.put, List.setIfInBounds_toArray, List.set_cons_zero, List.set_cons_succ, i64_w, i32_w]; rfl
               refine one_ (i := 13) (N := some 6) #[T, T, T, T, T, T, T, T, T, T, T, T, T, T, F, F] rfl rfl (one_of HT_.out (by kernel_rfl)) (by decide) (fun K hK => ?_); refine box_step ?hg (N := 6) ?hd (cs := #[.int .i64 0, .int .i64 0]) (t := 30) ?hr ?_; (case hd => rfl); (case hg => rfl); (case hr => first | (go_simp; done) | (go_simp; rfl)); intro gb252 hg w18 hbox hb; have n0_ := Aside0.mk (Kd.R_below (by (with_reducible repeat (first | apply Kd.R_alloc | apply Kd.R_drewN | apply Kd.R_drew)); exact HO_3.out) hb); have n1_ := Aside0.mk (blk_below (bI BK251.out) hb); have n2_ := Aside0.mk (below_step (by repeat with_reducible first | exact HB.out | refine bC ?_ | refine below_set ?_ GE251.out) hb); have n3_ := Aside0.mk (hbox); have n4_ := Aside0.mk ((by rw [hg]; exact (below_size (by repeat with_reducible first | exact HB.out | refine bC ?_ | refine below_set ?_ GE251.out)) : w.heap.size ≤ gb252)); have n5_ := n4_; have n6_ := Aside0.mk ((by rw [hg]; exact Nat.ne_of_lt (blk_lt (bI BK251.out)) : gb251 ≠ gb252)); have n7_ : Aside0 (gb252 ≠ gb251) := ⟨Ne.symm n6_.out⟩; clear HO_3 BK251 HB; have HO_3 := n0_; have BK251 := n1_; have HB := n2_; have BK252 := n3_; have GW252 := n4_; have GE252 := n5_; have NB251_252 := n6_; have NB252_251 := n7_; clear n0_ n1_ n2_ n3_ n4_ n5_ n6_ n7_ hb hbox hg; refine hK.out _ _ ⟨((HB.out.cell (World.block_lt_of_cell? w _ hw249_0)).trans hw249_0), ((HB.out.cell (World.block_lt_of_cell? w _ hw249_1)).trans hw249_1), ((HB.out.cell (World.block_lt_of_cell? w _ hw250_0)).trans hw250_0), ((HB.out.cell (World.block_lt_of_cell? w _ hw250_1)).trans hw250_1)⟩ (fun hHeld => ?_); clear hK K; refine norm_ (a' := ?_) ?_ ?_; rotate_left
               ·show Act.put _ (some 6) _ = _; simp only [Act.put, List.setIfInBounds_toArray, List.set_cons_zero, List.set_cons_succ, i64_w, i32_w]; rfl
               exact norm_ (by simp only [putAll, Act.put, List.setIfInBounds_toArray, List.set_cons_zero, List.set_cons_succ]) (hCont (gb251, gb252) _ ⟨hHeld, (by (with_reducible repeat (first | apply Kd.R_alloc | apply Kd.R_drewN | apply Kd.R_drew)); exact HO_3.out), (bI BK251.out), (bI BK252.out), GW251.out, GE251.out, NB252_251.out, NB251_252.out, GW252.out, GE252.out, (by repeat with_reducible first | exact HB.out | refine bC ?_ | refine below_set ?_ GE251.out | refine below_set ?_ GE252.out)⟩)
              ·skip; refine box_step ?hg (N := 6) ?hd (cs := #[.int .i64 0, .int .i64 0]) (t := 30) ?hr ?_; (case hd => rfl); (case hg => rfl); (case hr => first | (go_simp; done) | (go_simp; rfl)); intro gb252 hg w17 hbox hb; have n0_ := Aside0.mk (Kd.R_below (by (with_reducible repeat (first | apply Kd.R_alloc | apply Kd.R_drewN | apply Kd.R_drew)); exact HO_3.out) hb); have n1_ := Aside0.mk (below_step (bB HB.out) hb); have n2_ := Aside0.mk (hbox); have n3_ := Aside0.mk ((by rw [hg]; exact (below_size (bB HB.out)) : w.heap.size ≤ gb252)); have n4_ := n3_; clear HO_3 HB; have HO_3 := n0_; have HB := n1_; have BK252 := n2_; have GW252 := n3_; have GE252 := n4_; clear n0_ n1_ n2_ n3_ n4_ hb hbox hg; refine hK.out _ _ ⟨((HB.out.cell (World.block_lt_of_cell? w _ hw249_0)).trans hw249_0), ((HB.out.cell (World.block_lt_of_cell? w _ hw249_1)).trans hw249_1), ((HB.out.cell (World.block_lt_of_cell? w _ hw250_0)).trans hw250_0), ((HB.out.cell (World.block_lt_of_cell? w _ hw250_1)).trans hw250_1)⟩ (fun hHeld => ?_); clear hK K; refine norm_ (a' := ?_) ?_ ?_; rotate_left
               ·show Act.put _ (some 6) _ = _; simp only [Act.put, List.setIfInBounds_toArray, List.set_cons_zero, List.set_cons_succ, i64_w, i32_w]; rfl
               refine one_ (i := 12) (N := some 5) #[T, T, T, T, T, T, T, T, T, T, T, T, T, T, F, F] rfl rfl (one_of HT_.out (by kernel_rfl)) (by decide) (fun K hK => ?_); refine box_step ?hg (N := 5) ?hd (cs := #[.int .i64 0, .int .i64 0]) (t := 30) ?hr ?_; (case hd => rfl); (case hg => rfl); (case hr => first | (go_simp; done) | (go_simp; rfl)); intro gb251 hg w18 hbox hb; have n0_ := Aside0.mk (Kd.R_below (by (with_reducible repeat (first | apply Kd.R_alloc | apply Kd.R_drewN | apply Kd.R_drew)); exact HO_3.out) hb); have n1_ := Aside0.mk (blk_below (bI BK252.out) hb); have n2_ := Aside0.mk (below_step (by repeat with_reducible first | exact HB.out | refine bC ?_ | refine below_set ?_ GE252.out) hb); have n3_ := Aside0.mk (hbox); have n4_ := Aside0.mk ((by rw [hg]; exact (below_size (by repeat with_reducible first | exact HB.out | refine bC ?_ | refine below_set ?_ GE252.out)) : w.heap.size ≤ gb251)); have n5_ := n4_; have n6_ := Aside0.mk ((by rw [hg]; exact Nat.ne_of_lt (blk_lt (bI BK252.out)) : gb252 ≠ gb251)); have n7_ : Aside0 (gb251 ≠ gb252) := ⟨Ne.symm n6_.out⟩; clear HO_3 BK252 HB; have HO_3 := n0_; have BK252 := n1_; have HB := n2_; have BK251 := n3_; have GW251 := n4_; have GE251 := n5_; have NB252_251 := n6_; have NB251_252 := n7_; clear n0_ n1_ n2_ n3_ n4_ n5_ n6_ n7_ hb hbox hg; refine hK.out _ _ ⟨((HB.out.cell (World.block_lt_of_cell? w _ hw249_0)).trans hw249_0), ((HB.out.cell (World.block_lt_of_cell? w _ hw249_1)).trans hw249_1), ((HB.out.cell (World.block_lt_of_cell? w _ hw250_0)).trans hw250_0), ((HB.out.cell (World.block_lt_of_cell? w _ hw250_1)).trans hw250_1)⟩ (fun hHeld => ?_); clear hK K; refine norm_ (a' := ?_) ?_ ?_; rotate_left
               ·show Act.put _ (some 5) _ = _; simp only [Act.put, List.setIfInBounds_toArray, List.set_cons_zero, List.set_cons_succ, i64_w, i32_w]; rfl
               exact norm_ (by simp only [putAll, Act.put, List.setIfInBounds_toArray, List.set_cons_zero, List.set_cons_succ]) (hCont (gb251, gb252) _ ⟨hHeld, (by (with_reducible repeat (first | apply Kd.R_alloc | apply Kd.R_drewN | apply Kd.R_drew)); exact HO_3.out), (bI BK251.out), (bI BK252.out), GW251.out, GE251.out, NB252_251.out, NB251_252.out, GW252.out, GE252.out, (by repeat with_reducible first | exact HB.out | refine bC ?_ | refine below_set ?_ GE252.out | refine below_set ?_ GE251.out)⟩)
             rintro ⟨gb251, gb252⟩ w19 ⟨hS_, h0_, h1_, h2_, h3_, h4_, h5_, h6_, h7_, h8_, h9_⟩; clear HO_3 HB; have HO_3 := Aside0.mk h0_; have BK251 := Aside0.mk h1_; have BK252 := Aside0.mk h2_; have GW251 := Aside0.mk h3_; have GE251 := Aside0.mk h4_; have NB252_251 := Aside0.mk h5_; have NB251_252 := Aside0.mk h6_; have GW252 := Aside0.mk h7_; have GE252 := Aside0.mk h8_; have HB := Aside0.mk h9_; clear h0_ h1_ h2_ h3_ h4_ h5_ h6_ h7_ h8_ h9_; have hHeld : w19.cell? (ad249.add ((x4_1).toNat * 2)) = some (.int .i64 ((rd_T30 l0 x4_1).f0)) ∧ w19.cell? ⟨(ad249.add ((x4_1).toNat * 2)).block, (ad249.add ((x4_1).toNat * 2)).off + 1, none⟩ = some (.int .i64 ((rd_T30 l0 x4_1).f1)) ∧ w19.cell? (ad249.add (((ji10)).toNat * 2)) = some (.int .i64 ((rd_T30 l0 (ji10)).f0)) ∧ w19.cell? ⟨(ad249.add (((ji10)).toNat * 2)).block, (ad249.add (((ji10)).toNat * 2)).off + 1, none⟩ = some (.int .i64 ((rd_T30 l0 (ji10)).f1)) := hS_; refine norm_ (a' := ?_) ?_ ?_; rotate_left
             ·simp only [putAll, Act.put, List.setIfInBounds_toArray, List.set_cons_zero, List.set_cons_succ]; rfl
             refine one_ (i := 14) (N := none) #[T, T, T, T, T, T, T, T, T, T, T, T, T, T, T, F] rfl rfl (one_of HT_.out (by kernel_rfl)) (by decide) (fun K hK => ?_); have hs20 : w19.cell? ⟨gb251, 0, none⟩ = some (.int .i64 0) := (blk_cell BK251.out 0).trans rfl; have hfs20 := blk_frozen BK251.out 0; have hns20_1 := NB252_251.out; have hms20_1 := NB251_252.out; have hs21 : w19.cell? ⟨gb251, 1, none⟩ = some (.int .i64 0) := (blk_cell BK251.out 1).trans rfl; have hfs21 := blk_frozen BK251.out 1; have hns21_1 := NB252_251.out; have hms21_1 := NB251_252.out; refine skip_ (w1 := ?_) (by rfl) rfl ?_ ?_; rotate_left
             ·go_simp
              rfl
             refine hK.out _ _ ⟨((cell_far (p := ⟨gb251, _, none⟩) (far_ne hw249_0 GW251.out) _).trans (((cell_far (p := ⟨gb251, _, none⟩) (far_ne hw249_0 GW251.out) _).trans (hHeld.1)))), ((cell_far (p := ⟨gb251, _, none⟩) (far_ne hw249_1 GW251.out) _).trans (((cell_far (p := ⟨gb251, _, none⟩) (far_ne hw249_1 GW251.out) _).trans (hHeld.2.1)))), ((cell_far (p := ⟨gb251, _, none⟩) (far_ne hw250_0 GW251.out) _).trans (((cell_far (p := ⟨gb251, _, none⟩) (far_ne hw250_0 GW251.out) _).trans (hHeld.2.2.1)))), ((cell_far (p := ⟨gb251, _, none⟩) (far_ne hw250_1 GW251.out) _).trans (((cell_far (p := ⟨gb251, _, none⟩) (far_ne hw250_1 GW251.out) _).trans (hHeld.2.2.2))))⟩ (fun hHeld => ?_); clear hK K; refine one_ (i := 15) (N := none) #[T, T, T, T, T, T, T, T, T, T, T, T, T, T, T, T] rfl rfl (one_of HT_.out (by kernel_rfl)) (by decide) (fun K hK => ?_); have hs22 : w19.cell? ⟨gb252, 0, none⟩ = some (.int .i64 0) := (blk_cell BK252.out 0).trans rfl; have hfs22 := blk_frozen BK252.out 0; have hns22_0 := NB251_252.out; have hms22_0 := NB252_251.out; have hs23 : w19.cell? ⟨gb252, 1, none⟩ = some (.int .i64 0) := (blk_cell BK252.out 1).trans rfl; have hfs23 := blk_frozen BK252.out 1; have hns23_0 := NB251_252.out; have hms23_0 := NB252_251.out; refine skip_ (w1 := ?_) (by rfl) rfl ?_ ?_; rotate_left
             ·go_simp
              rfl
             refine hK.out _ _ ⟨((cell_far (p := ⟨gb252, _, none⟩) (far_ne hw249_0 GW252.out) _).trans (((cell_far (p := ⟨gb252, _, none⟩) (far_ne hw249_0 GW252.out) _).trans (hHeld.1)))), ((cell_far (p := ⟨gb252, _, none⟩) (far_ne hw249_1 GW252.out) _).trans (((cell_far (p := ⟨gb252, _, none⟩) (far_ne hw249_1 GW252.out) _).trans (hHeld.2.1)))), ((cell_far (p := ⟨gb252, _, none⟩) (far_ne hw250_0 GW252.out) _).trans (((cell_far (p := ⟨gb252, _, none⟩) (far_ne hw250_0 GW252.out) _).trans (hHeld.2.2.1)))), ((cell_far (p := ⟨gb252, _, none⟩) (far_ne hw250_1 GW252.out) _).trans (((cell_far (p := ⟨gb252, _, none⟩) (far_ne hw250_1 GW252.out) _).trans (hHeld.2.2.2))))⟩ (fun hHeld => ?_); clear hK K; refine done_ (done_of HT_.out (by kernel_rfl)) ?_; have hnb24 := NB251_252.out; have hnc24 := NB252_251.out; have hcz25_0 : w19.cell? ⟨gb251, 0, none⟩ = some (.int .i64 0) := (blk_cell BK251.out 0).trans rfl; have hcz25_1 : w19.cell? ⟨gb251, 1, none⟩ = some (.int .i64 0) := (blk_cell BK251.out 1).trans rfl; have hfz25_0 := blk_frozen BK251.out 0; have hfz25_1 := blk_frozen BK251.out 1; have hcz26_0 : w19.cell? ⟨gb252, 0, none⟩ = some (.int .i64 0) := (blk_cell BK252.out 0).trans rfl; have hcz26_1 : w19.cell? ⟨gb252, 1, none⟩ = some (.int .i64 0) := (blk_cell BK252.out 1).trans rfl; have hfz26_0 := blk_frozen BK252.out 0; have hfz26_1 := blk_frozen BK252.out 1
             try go_wp2_with (first | ((with_reducible refine gate_callee (f := 36) rfl ?_); refine goesL_ (some 35) rfl rfl Try.func36 (by kernel_rfl) rfl #[.agg #[.int .i64 ((rd_T30 l0 x4_1).f0), .int .i64 ((rd_T30 l0 x4_1).f1)], .agg #[.int .i64 ((rd_T30 l0 (ji10)).f0), .int .i64 ((rd_T30 l0 (ji10)).f1)]] rfl (by (try simp only [List.map_toArray, List.map_cons, List.map_nil]); first | done | (simp only [hji10]; rfl) | rfl | (simp only [List.length_drop, List.length_take]; rfl)) ?_; (with_reducible refine (mapmakerref09_Of.calls ((rd_T30 l0 x4_1).f0) ((rd_T30 l0 x4_1).f1) ((rd_T30 l0 (ji10)).f0) ((rd_T30 l0 (ji10)).f1) t253 t254 t255 t256 _ A14.out).mono ?_); rintro e w27 ⟨rfl, hb⟩; refine ⟨_, rfl, ?_⟩; have n0_ := Aside0.mk (Kd.R_below (by (with_reducible repeat (first | apply Kd.R_alloc | apply Kd.R_drewN | apply Kd.R_drew)); exact (Kd.R_mono (Kd.R_mono (Kd.R_far (p := ⟨gb252, 1, none⟩) (Kd.R_far (p := ⟨gb252, 0, none⟩) (Kd.R_far (p := ⟨gb251, 1, none⟩) (Kd.R_far (p := ⟨gb251, 0, none⟩) (Kd.R_types (Kd.R_types HO_3.out BK251.out (by decide)) BK252.out (by decide)) (fun _ hk => hk.1.2) (.int .i64 ((rd_T30 l0 x4_1).f0))) (fun _ hk => hk.1.2) (.int .i64 ((rd_T30 l0 x4_1).f1))) (fun _ hk => hk.2) (.int .i64 ((rd_T30 l0 (ji10)).f0))) (fun _ hk => hk.2) (.int .i64 ((rd_T30 l0 (ji10)).f1))) (fun _ h_ => h_.1)) (fun _ h_ => h_.1))) hb); have n1_ := Aside0.mk (blk_below (g := gb251) (o := .cells #[.int .i64 ((rd_T30 l0 x4_1).f0), .int .i64 ((rd_T30 l0 x4_1).f1)] 30 (0, 0)) (by (iterate 2 (refine bI ?_; refine blk_far ?_ NB251_252.out _)); refine bI ?_; refine blk_put (cs := #[.int .i64 ((rd_T30 l0 x4_1).f0), .int .i64 0]) ?_ 1 _ rfl; refine bI ?_; refine blk_put (cs := #[.int .i64 0, .int .i64 0]) ?_ 0 _ rfl; refine bI ?_; exact BK251.out) hb); have n2_ := Aside0.mk (blk_below (g := gb252) (o := .cells #[.int .i64 ((rd_T30 l0 (ji10)).f0), .int .i64 ((rd_T30 l0 (ji10)).f1)] 30 (0, 0)) (by refine bI ?_; refine blk_put (cs := #[.int .i64 ((rd_T30 l0 (ji10)).f0), .int .i64 0]) ?_ 1 _ rfl; refine bI ?_; refine blk_put (cs := #[.int .i64 0, .int .i64 0]) ?_ 0 _ rfl; (iterate 2 (refine bI ?_; refine blk_far ?_ NB252_251.out _)); refine bI ?_; exact BK252.out) hb); have n3_ := Aside0.mk (below_step (by repeat with_reducible first | exact HB.out | refine bC ?_ | refine below_set ?_ GE251.out | refine below_set ?_ GE252.out) hb); clear HO_3 BK251 BK252 HB; have HO_3 := n0_; have BK251 := n1_; have BK252 := n2_; have HB := n3_; clear n0_ n1_ n2_ n3_; (try clear hb); (try clear hb2); (try clear hk); (try clear hi)) | ((with_reducible refine gate_builtin (b := .append) (xs := #[.tmp 32, .tmp 36]) rfl ?_); at_builtin; refine Kd.R_append k45 (w0 := w) w.heap.size rfl (.tmp 32) (.tmp 36) 27 45 (.agg #[(.int .i64 0), (.int .i64 0), (.int .i64 0), (.int .i64 0)]) 32 rfl Try.underlying27 info45 rfl (by decide) (by omega) u3 x3_1 (⟨(⟨t253, t254⟩ : S30), (⟨t255, t256⟩ : S30)⟩ : S45) [.int .i64 t253, .int .i64 t254, .int .i64 t255, .int .i64 t256] (fun _ => True) (fun _ => False) rfl rfl ?aP (fun _ hk => hk.elim) ?aF ?aO ?aB ?aS ?aL ?_; (case aP => exact k45_mkM _ _ _ (⟨(⟨t253, t254⟩ : S30), (⟨t255, t256⟩ : S30)⟩ : S45)); (case aB => exact (by repeat with_reducible first | exact HB.out | refine bC ?_ | refine below_set ?_ GE251.out | refine below_set ?_ GE252.out)); (case aF => exact (fun _ _ => trivial)); (case aO => exact (by (with_reducible repeat (first | apply Kd.R_alloc | apply Kd.R_drewN | apply Kd.R_drew)); exact HO_3.out)); (case aS => exact (below_size (by repeat with_reducible first | exact HB.out | refine bC ?_ | refine below_set ?_ GE251.out | refine below_set ?_ GE252.out))); (case aL => have := LMc15.out; omega); intro v258 w28 ho hb hg hat; rw [← Ny257.out] at ho; have n0_ := Aside0.mk (blk_grown (bI BK251.out) hg (Kd.R_ne HO_3.out BK251.out (by decide))); have n1_ := Aside0.mk (blk_grown (bI BK252.out) hg (Kd.R_ne HO_3.out BK252.out (by decide))); have n2_ := Aside0.mk (hb); have n3_ := Aside0.mk (ho); clear BK251 BK252 HB HO_3; have BK251 := n0_; have BK252 := n1_; have HB := n2_; have HO259 := n3_; clear n0_ n1_ n2_ n3_ ho hb hg hat))
             go_roundg kj1
             case measure => have := HK1.out; have := HJ1.out; omega
             case rel => exact ⟨(y257), (wrap64 (x4_1 + 1)), (by first | rfl | (simp; done) | (simp [*]; done)), H', ⟨by have := HK1.out; have := HJ1.out; omega⟩, ⟨by (with_reducible repeat (first | apply Kd.R_alloc | apply Kd.R_drewN | apply Kd.R_drew)); exact HO259.out⟩, ⟨by repeat with_reducible first | exact HB.out | refine bC ?_ | refine below_set ?_ GE251.out | refine below_set ?_ GE252.out⟩⟩
            ·rw [if_neg c15] at H
             exact absurd H (by simp)
           ·rw [if_neg c13] at H
            have c13b0 : (!(((rd_T30 l0 x4_1).f0) == ((rd_T30 l0 (ji10)).f0)) || (!(((rd_T30 l0 x4_1).f1) == ((rd_T30 l0 (ji10)).f1)))) = false := by simpa using c13
            clear c13; have H' := Aside0.mk H; clear H
            try go_wp2
            have n0_ := Aside0.mk (Kd.R_drew HO_3.out); have n1_ := Aside0.mk (below_drew1 HB.out); clear HO_3 HB; have HO_3 := n0_; have HB := n1_; clear n0_ n1_; have p249 : 0 ≤ (x4_1 : Int) := of_decide_eq_true (by first | (with_reducible assumption) | assumption); have q249 : x4_1 < (l0.length : Int) := of_decide_eq_true (by first | (with_reducible assumption) | assumption); obtain ⟨ad249, e249, hx249_0, hx249_1⟩ := at_T30 HR0.out x4_1 p249 q249; have hw249_1 := hx249_1; have hw249_0 := hx249_0
            cases e249
            replace hx249_0 := (HB.out.cell (World.block_lt_of_cell? w _ hx249_0)).trans hx249_0; replace hx249_1 := (HB.out.cell (World.block_lt_of_cell? w _ hx249_1)).trans hx249_1; replace p249 := eq_true p249; replace q249 := eq_true q249; have p250 : 0 ≤ ((ji10) : Int) := of_decide_eq_true (by first | (with_reducible assumption) | assumption); have q250 : (ji10) < (l0.length : Int) := of_decide_eq_true (by first | (with_reducible assumption) | assumption); obtain ⟨ad250, e250, hx250_0, hx250_1⟩ := at_T30 HR0.out (ji10) p250 q250; have hw250_1 := hx250_1; have hw250_0 := hx250_0; obtain rfl : ad249 = ad250 := (by injection e250); replace hx250_0 := (HB.out.cell (World.block_lt_of_cell? w _ hx250_0)).trans hx250_0; replace hx250_1 := (HB.out.cell (World.block_lt_of_cell? w _ hx250_1)).trans hx250_1; replace p250 := eq_true p250; replace q250 := eq_true q250; refine start_ (n := 16) (S := fun w' => w'.cell? (ad249.add ((x4_1).toNat * 2)) = some (.int .i64 ((rd_T30 l0 x4_1).f0)) ∧ w'.cell? ⟨(ad249.add ((x4_1).toNat * 2)).block, (ad249.add ((x4_1).toNat * 2)).off + 1, none⟩ = some (.int .i64 ((rd_T30 l0 x4_1).f1)) ∧ w'.cell? (ad249.add (((ji10)).toNat * 2)) = some (.int .i64 ((rd_T30 l0 (ji10)).f0)) ∧ w'.cell? ⟨(ad249.add (((ji10)).toNat * 2)).block, (ad249.add (((ji10)).toNat * 2)).off + 1, none⟩ = some (.int .i64 ((rd_T30 l0 (ji10)).f1))) (ds := []) #[F, F, F, F, F, F, F, F, F, F, F, F, F, F, F, F] (by kernel_rfl) rfl rfl ⟨((HB.out.cell (World.block_lt_of_cell? w _ hw249_0)).trans hw249_0), ((HB.out.cell (World.block_lt_of_cell? w _ hw249_1)).trans hw249_1), ((HB.out.cell (World.block_lt_of_cell? w _ hw250_0)).trans hw250_0), ((HB.out.cell (World.block_lt_of_cell? w _ hw250_1)).trans hw250_1)⟩ (fun hHeld => ?_); refine with_tabW mapmakerref11_Segs.tab5 mapmakerref11_Segs.bits5 (fun HT_ HW_ => ?_); generalize wc.drew = w29 at HO_3 HB hx249_0 hx249_1 hx250_0 hx250_1 hHeld ⊢
            refine pure_ (i := 0) (N := some 17) (v := ?_) (a' := ?_) #[T, F, F, F, F, F, F, F, F, F, F, F, F, F, F, F] rfl rfl (any_of HT_.out (by kernel_rfl)) (fun _ _ _ h => h) (Or.inl ⟨by rfl, ?_⟩) ?_ ?_; rotate_left
            ·intro w'; go_simp; with_reducible rfl
            rotate_left
            ·simp only [Act.put, List.setIfInBounds_toArray, List.set_cons_zero, List.set_cons_succ, i64_w, i32_w]; rfl
            refine pure_ (i := 1) (N := some 18) (v := ?_) (a' := ?_) #[T, T, F, F, F, F, F, F, F, F, F, F, F, F, F, F] rfl rfl (any_of HT_.out (by kernel_rfl)) (fun _ _ _ h => h) (Or.inl ⟨by rfl, ?_⟩) ?_ ?_; rotate_left
            ·intro w'; go_simp; with_reducible rfl
            rotate_left
            ·simp only [Act.put, List.setIfInBounds_toArray, List.set_cons_zero, List.set_cons_succ, i64_w, i32_w]; rfl
            refine pure_ (i := 2) (N := some 19) (v := ?_) (a' := ?_) #[T, T, T, F, F, F, F, F, F, F, F, F, F, F, F, F] rfl rfl (any_of HT_.out (by kernel_rfl)) (fun _ _ _ h => h) (Or.inl ⟨by rfl, ?_⟩) ?_ ?_; rotate_left
            ·intro w'; go_simp; with_reducible rfl
            rotate_left
            ·simp only [Act.put, List.setIfInBounds_toArray, List.set_cons_zero, List.set_cons_succ, i64_w, i32_w]; rfl
            refine pure_ (i := 4) (N := some 21) (v := ?_) (a' := ?_) #[T, T, T, F, T, F, F, F, F, F, F, F, F, F, F, F] rfl rfl (any_of HT_.out (by kernel_rfl)) (fun _ _ _ h => h) (Or.inl ⟨by rfl, ?_⟩) ?_ ?_; rotate_left
            ·intro w'; go_simp; with_reducible rfl
            rotate_left
            ·simp only [Act.put, List.setIfInBounds_toArray, List.set_cons_zero, List.set_cons_succ, i64_w, i32_w]; rfl
            refine pure_ (i := 5) (N := some 22) (v := ?_) (a' := ?_) #[T, T, T, F, T, T, F, F, F, F, F, F, F, F, F, F] rfl rfl (any_of HT_.out (by kernel_rfl)) (fun _ _ _ h => h) (Or.inl ⟨by rfl, ?_⟩) ?_ ?_; rotate_left
            ·intro w'; go_simp; with_reducible rfl
            rotate_left
            ·simp only [Act.put, List.setIfInBounds_toArray, List.set_cons_zero, List.set_cons_succ, i64_w, i32_w]; rfl
            refine pure_ (i := 6) (N := some 23) (v := ?_) (a' := ?_) #[T, T, T, F, T, T, T, F, F, F, F, F, F, F, F, F] rfl rfl (any_of HT_.out (by kernel_rfl)) (fun _ _ _ h => h) (Or.inl ⟨by rfl, ?_⟩) ?_ ?_; rotate_left
            ·intro w'; go_simp; with_reducible rfl
            rotate_left
            ·simp only [Act.put, List.setIfInBounds_toArray, List.set_cons_zero, List.set_cons_succ, i64_w, i32_w]; rfl
            refine pure_ (i := 7) (N := some 24) (v := ?_) (a' := ?_) #[T, T, T, F, T, T, T, T, F, F, F, F, F, F, F, F] rfl rfl (any_of HT_.out (by kernel_rfl)) (fun _ _ _ h => h) (Or.inl ⟨by rfl, ?_⟩) ?_ ?_; rotate_left
            ·intro w'; go_simp; with_reducible rfl
            rotate_left
            ·simp only [Act.put, List.setIfInBounds_toArray, List.set_cons_zero, List.set_cons_succ, i64_w, i32_w]; rfl
            refine pure_ (i := 8) (N := some 25) (v := ?_) (a' := ?_) #[T, T, T, F, T, T, T, T, T, F, F, F, F, F, F, F] rfl rfl (any_of HT_.out (by kernel_rfl)) (fun _ _ _ h => h) (Or.inl ⟨by rfl, ?_⟩) ?_ ?_; rotate_left
            ·intro w'; go_simp; with_reducible rfl
            rotate_left
            ·simp only [Act.put, List.setIfInBounds_toArray, List.set_cons_zero, List.set_cons_succ, i64_w, i32_w]; rfl
            refine pure_ (i := 9) (N := some 26) (v := ?_) (a' := ?_) #[T, T, T, F, T, T, T, T, T, T, F, F, F, F, F, F] rfl rfl (any_of HT_.out (by kernel_rfl)) (fun _ _ _ h => h) (Or.inl ⟨by rfl, ?_⟩) ?_ ?_; rotate_left
            ·intro w'; go_simp; with_reducible rfl
            rotate_left
            ·simp only [Act.put, List.setIfInBounds_toArray, List.set_cons_zero, List.set_cons_succ, i64_w, i32_w]; rfl
            refine pure_ (i := 10) (N := some 27) (v := ?_) (a' := ?_) #[T, T, T, F, T, T, T, T, T, T, T, F, F, F, F, F] rfl rfl (any_of HT_.out (by kernel_rfl)) (fun _ _ _ h => h) (Or.inl ⟨by rfl, ?_⟩) ?_ ?_; rotate_left
            ·intro w'; go_simp; with_reducible rfl
            rotate_left
            ·simp only [Act.put, List.setIfInBounds_toArray, List.set_cons_zero, List.set_cons_succ, i64_w, i32_w]; rfl
            refine take_ (i := 3) (N := some 20) (v := ?_) (a' := ?_) #[T, T, T, T, T, T, T, T, T, T, T, F, F, F, F, F] rfl rfl (take_ofW HT_.out HW_.out (by kernel_rfl)) (fun _ _ _ h => h) (Or.inl ⟨by rfl, ?_⟩) hHeld ?_ ?_; rotate_left
            ·rintro w' ⟨s0, s1, s2, s3⟩; go_simp; with_reducible rfl
            rotate_left
            ·simp only [Act.put, List.setIfInBounds_toArray, List.set_cons_zero, List.set_cons_succ, i64_w, i32_w]; rfl
            refine take_ (i := 11) (N := some 28) (v := ?_) (a' := ?_) #[T, T, T, T, T, T, T, T, T, T, T, T, F, F, F, F] rfl rfl (take_ofW HT_.out HW_.out (by kernel_rfl)) (fun _ _ _ h => h) (Or.inl ⟨by rfl, ?_⟩) hHeld ?_ ?_; rotate_left
            ·rintro w' ⟨s0, s1, s2, s3⟩; go_simp; with_reducible rfl
            rotate_left
            ·simp only [Act.put, List.setIfInBounds_toArray, List.set_cons_zero, List.set_cons_succ, i64_w, i32_w]; rfl
            refine join_ (σ := Nat × Nat) 2 #[T, T, T, T, T, T, T, T, T, T, T, T, T, T, F, F] (fun s_ => [(5, .pointer (some ⟨s_.1, 0, none⟩)), (6, .pointer (some ⟨s_.2, 0, none⟩))]) (fun s_ w' => (w'.cell? (ad249.add ((x4_1).toNat * 2)) = some (.int .i64 ((rd_T30 l0 x4_1).f0)) ∧ w'.cell? ⟨(ad249.add ((x4_1).toNat * 2)).block, (ad249.add ((x4_1).toNat * 2)).off + 1, none⟩ = some (.int .i64 ((rd_T30 l0 x4_1).f1)) ∧ w'.cell? (ad249.add (((ji10)).toNat * 2)) = some (.int .i64 ((rd_T30 l0 (ji10)).f0)) ∧ w'.cell? ⟨(ad249.add (((ji10)).toNat * 2)).block, (ad249.add (((ji10)).toNat * 2)).off + 1, none⟩ = some (.int .i64 ((rd_T30 l0 (ji10)).f1))) ∧ (Kd.R k45 45 w' w.heap.size (fun _ => True) u3 x3_1) ∧ (w'.heap[s_.1]? = some (.cells #[.int .i64 0, .int .i64 0] 30 (0, 0))) ∧ (w'.heap[s_.2]? = some (.cells #[.int .i64 0, .int .i64 0] 30 (0, 0))) ∧ (w.heap.size ≤ s_.1) ∧ (w.heap.size ≤ s_.1) ∧ (s_.2 ≠ s_.1) ∧ (s_.1 ≠ s_.2) ∧ (w.heap.size ≤ s_.2) ∧ (w.heap.size ≤ s_.2) ∧ (Below w.heap.size w w')) ?_ ?_; rotate_left
            ·intro hCont; refine two_ (i := 12) (j := 13) (Ni := some 5) (Nj := some 6) #[T, T, T, T, T, T, T, T, T, T, T, T, T, F, F, F] #[T, T, T, T, T, T, T, T, T, T, T, T, F, T, F, F] rfl rfl rfl rfl (two_of HT_.out (by kernel_rfl)) (by decide) (by decide) (fun K hK => ?_) (fun K hK => ?_)
             ·skip; refine box_step ?hg (N := 5) ?hd (cs := #[.int .i64 0, .int .i64 0]) (t := 30) ?hr ?_; (case hd => rfl); (case hg => rfl); (case hr => first | (go_simp; done) | (go_simp; rfl)); intro gb251 hg w30 hbox hb; have n0_ := Aside0.mk (Kd.R_below (by (with_reducible repeat (first | apply Kd.R_alloc | apply Kd.R_drewN | apply Kd.R_drew)); exact HO_3.out) hb); have n1_ := Aside0.mk (below_step (bB HB.out) hb); have n2_ := Aside0.mk (hbox); have n3_ := Aside0.mk ((by rw [hg]; exact (below_size (bB HB.out)) : w.heap.size ≤ gb251)); have n4_ := n3_; clear HO_3 HB; have HO_3 := n0_; have HB := n1_; have BK251 := n2_; have GW251 := n3_; have GE251 := n4_; clear n0_ n1_ n2_ n3_ n4_ hb hbox hg; refine hK.out _ _ ⟨((HB.out.cell (World.block_lt_of_cell? w _ hw249_0)).trans hw249_0), ((HB.out.cell (World.block_lt_of_cell? w _ hw249_1)).trans hw249_1), ((HB.out.cell (World.block_lt_of_cell? w _ hw250_0)).trans hw250_0), ((HB.out.cell (World.block_lt_of_cell? w _ hw250_1)).trans hw250_1)⟩ (fun hHeld => ?_); clear hK K; refine norm_ (a' := ?_) ?_ ?_; rotate_left
              ·show Act.put _ (some 5) _ = _; simp only [Act.put, List.setIfInBounds_toArray, List.set_cons_zero, List.set_cons_succ, i64_w, i32_w]; rfl
              refine one_ (i := 13) (N := some 6) #[T, T, T, T, T, T, T, T, T, T, T, T, T, T, F, F] rfl rfl (one_of HT_.out (by kernel_rfl)) (by decide) (fun K hK => ?_); refine box_step ?hg (N := 6) ?hd (cs := #[.int .i64 0, .int .i64 0]) (t := 30) ?hr ?_; (case hd => rfl); (case hg => rfl); (case hr => first | (go_simp; done) | (go_simp; rfl)); intro gb252 hg w31 hbox hb; have n0_ := Aside0.mk (Kd.R_below (by (with_reducible repeat (first | apply Kd.R_alloc | apply Kd.R_drewN | apply Kd.R_drew)); exact HO_3.out) hb); have n1_ := Aside0.mk (blk_below (bI BK251.out) hb); have n2_ := Aside0.mk (below_step (by repeat with_reducible first | exact HB.out | refine bC ?_ | refine below_set ?_ GE251.out) hb); have n3_ := Aside0.mk (hbox); have n4_ := Aside0.mk ((by rw [hg]; exact (below_size (by repeat with_reducible first | exact HB.out | refine bC ?_ | refine below_set ?_ GE251.out)) : w.heap.size ≤ gb252)); have n5_ := n4_; have n6_ := Aside0.mk ((by rw [hg]; exact Nat.ne_of_lt (blk_lt (bI BK251.out)) : gb251 ≠ gb252)); have n7_ : Aside0 (gb252 ≠ gb251) := ⟨Ne.symm n6_.out⟩; clear HO_3 BK251 HB; have HO_3 := n0_; have BK251 := n1_; have HB := n2_; have BK252 := n3_; have GW252 := n4_; have GE252 := n5_; have NB251_252 := n6_; have NB252_251 := n7_; clear n0_ n1_ n2_ n3_ n4_ n5_ n6_ n7_ hb hbox hg; refine hK.out _ _ ⟨((HB.out.cell (World.block_lt_of_cell? w _ hw249_0)).trans hw249_0), ((HB.out.cell (World.block_lt_of_cell? w _ hw249_1)).trans hw249_1), ((HB.out.cell (World.block_lt_of_cell? w _ hw250_0)).trans hw250_0), ((HB.out.cell (World.block_lt_of_cell? w _ hw250_1)).trans hw250_1)⟩ (fun hHeld => ?_); clear hK K; refine norm_ (a' := ?_) ?_ ?_; rotate_left
              ·show Act.put _ (some 6) _ = _; simp only [Act.put, List.setIfInBounds_toArray, List.set_cons_zero, List.set_cons_succ, i64_w, i32_w]; rfl
              exact norm_ (by simp only [putAll, Act.put, List.setIfInBounds_toArray, List.set_cons_zero, List.set_cons_succ]) (hCont (gb251, gb252) _ ⟨hHeld, (by (with_reducible repeat (first | apply Kd.R_alloc | apply Kd.R_drewN | apply Kd.R_drew)); exact HO_3.out), (bI BK251.out), (bI BK252.out), GW251.out, GE251.out, NB252_251.out, NB251_252.out, GW252.out, GE252.out, (by repeat with_reducible first | exact HB.out | refine bC ?_ | refine below_set ?_ GE251.out | refine below_set ?_ GE252.out)⟩)
             ·skip; refine box_step ?hg (N := 6) ?hd (cs := #[.int .i64 0, .int .i64 0]) (t := 30) ?hr ?_; (case hd => rfl); (case hg => rfl); (case hr => first | (go_simp; done) | (go_simp; rfl)); intro gb252 hg w30 hbox hb; have n0_ := Aside0.mk (Kd.R_below (by (with_reducible repeat (first | apply Kd.R_alloc | apply Kd.R_drewN | apply Kd.R_drew)); exact HO_3.out) hb); have n1_ := Aside0.mk (below_step (bB HB.out) hb); have n2_ := Aside0.mk (hbox); have n3_ := Aside0.mk ((by rw [hg]; exact (below_size (bB HB.out)) : w.heap.size ≤ gb252)); have n4_ := n3_; clear HO_3 HB; have HO_3 := n0_; have HB := n1_; have BK252 := n2_; have GW252 := n3_; have GE252 := n4_; clear n0_ n1_ n2_ n3_ n4_ hb hbox hg; refine hK.out _ _ ⟨((HB.out.cell (World.block_lt_of_cell? w _ hw249_0)).trans hw249_0), ((HB.out.cell (World.block_lt_of_cell? w _ hw249_1)).trans hw249_1), ((HB.out.cell (World.block_lt_of_cell? w _ hw250_0)).trans hw250_0), ((HB.out.cell (World.block_lt_of_cell? w _ hw250_1)).trans hw250_1)⟩ (fun hHeld => ?_); clear hK K; refine norm_ (a' := ?_) ?_ ?_; rotate_left
              ·show Act.put _ (some 6) _ = _; simp only [Act.put, List.setIfInBounds_toArray, List.set_cons_zero, List.set_cons_succ, i64_w, i32_w]; rfl
              refine one_ (i := 12) (N := some 5) #[T, T, T, T, T, T, T, T, T, T, T, T, T, T, F, F] rfl rfl (one_of HT_.out (by kernel_rfl)) (by decide) (fun K hK => ?_); refine box_step ?hg (N := 5) ?hd (cs := #[.int .i64 0, .int .i64 0]) (t := 30) ?hr ?_; (case hd => rfl); (case hg => rfl); (case hr => first | (go_simp; done) | (go_simp; rfl)); intro gb251 hg w31 hbox hb; have n0_ := Aside0.mk (Kd.R_below (by (with_reducible repeat (first | apply Kd.R_alloc | apply Kd.R_drewN | apply Kd.R_drew)); exact HO_3.out) hb); have n1_ := Aside0.mk (blk_below (bI BK252.out) hb); have n2_ := Aside0.mk (below_step (by repeat with_reducible first | exact HB.out | refine bC ?_ | refine below_set ?_ GE252.out) hb); have n3_ := Aside0.mk (hbox); have n4_ := Aside0.mk ((by rw [hg]; exact (below_size (by repeat with_reducible first | exact HB.out | refine bC ?_ | refine below_set ?_ GE252.out)) : w.heap.size ≤ gb251)); have n5_ := n4_; have n6_ := Aside0.mk ((by rw [hg]; exact Nat.ne_of_lt (blk_lt (bI BK252.out)) : gb252 ≠ gb251)); have n7_ : Aside0 (gb251 ≠ gb252) := ⟨Ne.symm n6_.out⟩; clear HO_3 BK252 HB; have HO_3 := n0_; have BK252 := n1_; have HB := n2_; have BK251 := n3_; have GW251 := n4_; have GE251 := n5_; have NB252_251 := n6_; have NB251_252 := n7_; clear n0_ n1_ n2_ n3_ n4_ n5_ n6_ n7_ hb hbox hg; refine hK.out _ _ ⟨((HB.out.cell (World.block_lt_of_cell? w _ hw249_0)).trans hw249_0), ((HB.out.cell (World.block_lt_of_cell? w _ hw249_1)).trans hw249_1), ((HB.out.cell (World.block_lt_of_cell? w _ hw250_0)).trans hw250_0), ((HB.out.cell (World.block_lt_of_cell? w _ hw250_1)).trans hw250_1)⟩ (fun hHeld => ?_); clear hK K; refine norm_ (a' := ?_) ?_ ?_; rotate_left
              ·show Act.put _ (some 5) _ = _; simp only [Act.put, List.setIfInBounds_toArray, List.set_cons_zero, List.set_cons_succ, i64_w, i32_w]; rfl
              exact norm_ (by simp only [putAll, Act.put, List.setIfInBounds_toArray, List.set_cons_zero, List.set_cons_succ]) (hCont (gb251, gb252) _ ⟨hHeld, (by (with_reducible repeat (first | apply Kd.R_alloc | apply Kd.R_drewN | apply Kd.R_drew)); exact HO_3.out), (bI BK251.out), (bI BK252.out), GW251.out, GE251.out, NB252_251.out, NB251_252.out, GW252.out, GE252.out, (by repeat with_reducible first | exact HB.out | refine bC ?_ | refine below_set ?_ GE252.out | refine below_set ?_ GE251.out)⟩)
            rintro ⟨gb251, gb252⟩ w32 ⟨hS_, h0_, h1_, h2_, h3_, h4_, h5_, h6_, h7_, h8_, h9_⟩; clear HO_3 HB; have HO_3 := Aside0.mk h0_; have BK251 := Aside0.mk h1_; have BK252 := Aside0.mk h2_; have GW251 := Aside0.mk h3_; have GE251 := Aside0.mk h4_; have NB252_251 := Aside0.mk h5_; have NB251_252 := Aside0.mk h6_; have GW252 := Aside0.mk h7_; have GE252 := Aside0.mk h8_; have HB := Aside0.mk h9_; clear h0_ h1_ h2_ h3_ h4_ h5_ h6_ h7_ h8_ h9_; have hHeld : w32.cell? (ad249.add ((x4_1).toNat * 2)) = some (.int .i64 ((rd_T30 l0 x4_1).f0)) ∧ w32.cell? ⟨(ad249.add ((x4_1).toNat * 2)).block, (ad249.add ((x4_1).toNat * 2)).off + 1, none⟩ = some (.int .i64 ((rd_T30 l0 x4_1).f1)) ∧ w32.cell? (ad249.add (((ji10)).toNat * 2)) = some (.int .i64 ((rd_T30 l0 (ji10)).f0)) ∧ w32.cell? ⟨(ad249.add (((ji10)).toNat * 2)).block, (ad249.add (((ji10)).toNat * 2)).off + 1, none⟩ = some (.int .i64 ((rd_T30 l0 (ji10)).f1)) := hS_; refine norm_ (a' := ?_) ?_ ?_; rotate_left
            ·simp only [putAll, Act.put, List.setIfInBounds_toArray, List.set_cons_zero, List.set_cons_succ]; rfl
            refine one_ (i := 14) (N := none) #[T, T, T, T, T, T, T, T, T, T, T, T, T, T, T, F] rfl rfl (one_of HT_.out (by kernel_rfl)) (by decide) (fun K hK => ?_); have hs33 : w32.cell? ⟨gb251, 0, none⟩ = some (.int .i64 0) := (blk_cell BK251.out 0).trans rfl; have hfs33 := blk_frozen BK251.out 0; have hns33_1 := NB252_251.out; have hms33_1 := NB251_252.out; have hs34 : w32.cell? ⟨gb251, 1, none⟩ = some (.int .i64 0) := (blk_cell BK251.out 1).trans rfl; have hfs34 := blk_frozen BK251.out 1; have hns34_1 := NB252_251.out; have hms34_1 := NB251_252.out; refine skip_ (w1 := ?_) (by rfl) rfl ?_ ?_; rotate_left
            ·go_simp
             rfl
            refine hK.out _ _ ⟨((cell_far (p := ⟨gb251, _, none⟩) (far_ne hw249_0 GW251.out) _).trans (((cell_far (p := ⟨gb251, _, none⟩) (far_ne hw249_0 GW251.out) _).trans (hHeld.1)))), ((cell_far (p := ⟨gb251, _, none⟩) (far_ne hw249_1 GW251.out) _).trans (((cell_far (p := ⟨gb251, _, none⟩) (far_ne hw249_1 GW251.out) _).trans (hHeld.2.1)))), ((cell_far (p := ⟨gb251, _, none⟩) (far_ne hw250_0 GW251.out) _).trans (((cell_far (p := ⟨gb251, _, none⟩) (far_ne hw250_0 GW251.out) _).trans (hHeld.2.2.1)))), ((cell_far (p := ⟨gb251, _, none⟩) (far_ne hw250_1 GW251.out) _).trans (((cell_far (p := ⟨gb251, _, none⟩) (far_ne hw250_1 GW251.out) _).trans (hHeld.2.2.2))))⟩ (fun hHeld => ?_); clear hK K; refine one_ (i := 15) (N := none) #[T, T, T, T, T, T, T, T, T, T, T, T, T, T, T, T] rfl rfl (one_of HT_.out (by kernel_rfl)) (by decide) (fun K hK => ?_); have hs35 : w32.cell? ⟨gb252, 0, none⟩ = some (.int .i64 0) := (blk_cell BK252.out 0).trans rfl; have hfs35 := blk_frozen BK252.out 0; have hns35_0 := NB251_252.out; have hms35_0 := NB252_251.out; have hs36 : w32.cell? ⟨gb252, 1, none⟩ = some (.int .i64 0) := (blk_cell BK252.out 1).trans rfl; have hfs36 := blk_frozen BK252.out 1; have hns36_0 := NB251_252.out; have hms36_0 := NB252_251.out; refine skip_ (w1 := ?_) (by rfl) rfl ?_ ?_; rotate_left
            ·go_simp
             rfl
            refine hK.out _ _ ⟨((cell_far (p := ⟨gb252, _, none⟩) (far_ne hw249_0 GW252.out) _).trans (((cell_far (p := ⟨gb252, _, none⟩) (far_ne hw249_0 GW252.out) _).trans (hHeld.1)))), ((cell_far (p := ⟨gb252, _, none⟩) (far_ne hw249_1 GW252.out) _).trans (((cell_far (p := ⟨gb252, _, none⟩) (far_ne hw249_1 GW252.out) _).trans (hHeld.2.1)))), ((cell_far (p := ⟨gb252, _, none⟩) (far_ne hw250_0 GW252.out) _).trans (((cell_far (p := ⟨gb252, _, none⟩) (far_ne hw250_0 GW252.out) _).trans (hHeld.2.2.1)))), ((cell_far (p := ⟨gb252, _, none⟩) (far_ne hw250_1 GW252.out) _).trans (((cell_far (p := ⟨gb252, _, none⟩) (far_ne hw250_1 GW252.out) _).trans (hHeld.2.2.2))))⟩ (fun hHeld => ?_); clear hK K; refine done_ (done_of HT_.out (by kernel_rfl)) ?_; have hnb37 := NB251_252.out; have hnc37 := NB252_251.out; have hcz38_0 : w32.cell? ⟨gb251, 0, none⟩ = some (.int .i64 0) := (blk_cell BK251.out 0).trans rfl; have hcz38_1 : w32.cell? ⟨gb251, 1, none⟩ = some (.int .i64 0) := (blk_cell BK251.out 1).trans rfl; have hfz38_0 := blk_frozen BK251.out 0; have hfz38_1 := blk_frozen BK251.out 1; have hcz39_0 : w32.cell? ⟨gb252, 0, none⟩ = some (.int .i64 0) := (blk_cell BK252.out 0).trans rfl; have hcz39_1 : w32.cell? ⟨gb252, 1, none⟩ = some (.int .i64 0) := (blk_cell BK252.out 1).trans rfl; have hfz39_0 := blk_frozen BK252.out 0; have hfz39_1 := blk_frozen BK252.out 1
            try go_wp2
            go_roundg kj1
            case measure => have := HK1.out; have := HJ1.out; omega
            case rel => exact ⟨(x3_1), (wrap64 (x4_1 + 1)), (by first | rfl | (simp; done) | (simp [*]; done)), H', ⟨by have := HK1.out; have := HJ1.out; omega⟩, ⟨by (with_reducible repeat (first | apply Kd.R_alloc | apply Kd.R_drewN | apply Kd.R_drew)); exact Kd.R_mono (Kd.R_far (p := ⟨gb252, 1, none⟩) (Kd.R_far (p := ⟨gb252, 0, none⟩) (Kd.R_far (p := ⟨gb251, 1, none⟩) (Kd.R_far (p := ⟨gb251, 0, none⟩) (Kd.R_types (Kd.R_types HO_3.out BK251.out (by decide)) BK252.out (by decide)) (fun _ hk => hk.1.2) (.int .i64 ((rd_T30 l0 x4_1).f0))) (fun _ hk => hk.1.2) (.int .i64 ((rd_T30 l0 x4_1).f1))) (fun _ hk => hk.2) (.int .i64 ((rd_T30 l0 (ji10)).f0))) (fun _ hk => hk.2) (.int .i64 ((rd_T30 l0 (ji10)).f1))) (fun _ hk => trivial)⟩, ⟨by repeat with_reducible first | exact HB.out | refine bC ?_ | refine below_set ?_ GE251.out | refine below_set ?_ GE252.out⟩⟩
          ·rw [if_neg c12] at H
           exact absurd H (by simp)
         ·rw [if_neg c11] at H
          exact absurd H (by simp)
       ·rw [if_neg c8] at H
        exact absurd H (by simp)
      ·rw [if_neg c7] at H
       exact absurd H (by simp)
     ·replace c6 := Bool.eq_false_iff.mpr c6; subst c6; have H1 : (some x3_1) = some r := by rw [if_neg (show ¬ (false = true) by decide)] at H; exact H
      clear H; have H := H1; clear H1; obtain rfl := Option.some.inj H
      go_wp2
      go_ret
      exact ⟨_, by first | rfl | (simp [errW_none, errW_some] <;> rfl) | (simp [*, errW_none, errW_some] <;> rfl), by (with_reducible repeat (first | apply Kd.R_alloc | apply Kd.R_drewN | apply Kd.R_drew)); exact HO_3.out, bB HB.out⟩

end Go.Proofs.Ytggafoldccikdaa.PAll
