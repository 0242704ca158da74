import Derived.Test.YtggafoldccikdaaPAllx0
import Derived.Test.YtggafoldccikdaaPAllx1
import Derived.Test.YtggafoldccikdaaPAllx16
import Derived.Test.YtggafoldccikdaaPAllx18
import Derived.Test.YtggafoldccikdaaPAllx24
import Derived.Test.YtggafoldccikdaaPAllx42
namespace Go.Proofs.Ytggafoldccikdaa.PAll
open Go.RowKit Go.Proofs.YtggafoldccikdaaW.PrintWords Go.Proofs.YtggafoldccikdaaW.PrintLast Go.Proofs.YtggafoldccikdaaW.PrintMore
attribute [local go_sem] max2_int min2_int max_two min_two max_three min_three max_four min_four
set_option linter.unusedVariables false
set_option linter.unusedSimpArgs false
attribute [local irreducible] Calls

/-! ### mapmakerlaw11_PolyPick: function 5 -/
mutual
def mapmakerlaw11_PolyPick.j0 : Nat → List (S30) → Bool → Option (Bool)
 | 0, _, _ => none
 | k + 1, x0, x17 => if x17 = true then ((mapmakerlaw11_lives.f k).bind fun t357 => (some t357)) else ((mapmakerref08_Box.f k x0).bind fun bt358 => (if (wrap64 (bt358.2.2.1 - bt358.1)) > 40 then (mapmakerlaw11_PolyPick.j1 k x0 true bt358.1 bt358.2.1 bt358.2.2.1 bt358.2.2.2.1) else (mapmakerlaw11_PolyPick.j1 k x0 (decide ((wrap64 (bt358.2.2.2.1 - bt358.2.1)) > 40)) bt358.1 bt358.2.1 bt358.2.2.1 bt358.2.2.2.1)))
def mapmakerlaw11_PolyPick.j1 : Nat → List (S30) → Bool → Int → Int → Int → Int → Option (Bool)
 | 0, _, _, _, _, _, _ => none
 | k + 1, x0, x37, x364000, x364001, x364002, x364003 => if x37 = true then ((mapmakerlaw11_lives.f k).bind fun t364 => (some t364)) else (mapmakerlaw11_PolyPick.l0 k x0 0 0 x364001 x364000 x364001 x364002 x364003)
def mapmakerlaw11_PolyPick.l0 : Nat → List (S30) → Int → Int → Int → Int → Int → Int → Int → Option (Bool)
 | 0, _, _, _, _, _, _, _, _ => none
 | k + 1, x0, x5, x6, x7, x364000, x364001, x364002, x364003 => if x7 ≤ x364003 then (mapmakerlaw11_PolyPick.l1 k x0 x5 x6 x7 x364000 x364000 x364001 x364002 x364003) else ((poly_Area2.f x0).bind fun t365 => (if t365 = (wrap64 ((wrap64 ((wrap64 (2 * x5)) + x6)) - 2)) then ((mapmakerlaw11_lives.f k).bind fun t366 => (some t366)) else (if (wrap64 (-t365)) = (wrap64 ((wrap64 ((wrap64 (2 * x5)) + x6)) - 2)) then ((mapmakerlaw11_lives.f k).bind fun t367 => (some t367)) else (none))))
def mapmakerlaw11_PolyPick.l1 : Nat → List (S30) → Int → Int → Int → Int → Int → Int → Int → Int → Option (Bool)
 | 0, _, _, _, _, _, _, _, _, _ => none
 | k + 1, x0, x5, x6, x7, x8, x364000, x364001, x364002, x364003 => if x8 ≤ x364002 then ((poly_Where.f k x0 x8 x7).bind fun t368 => (if t368 = 2 then (mapmakerlaw11_PolyPick.l1 k x0 (wrap64 (x5 + 1)) x6 x7 (wrap64 (x8 + 1)) x364000 x364001 x364002 x364003) else (if t368 = 1 then (mapmakerlaw11_PolyPick.l1 k x0 x5 (wrap64 (x6 + 1)) x7 (wrap64 (x8 + 1)) x364000 x364001 x364002 x364003) else (mapmakerlaw11_PolyPick.l1 k x0 x5 x6 x7 (wrap64 (x8 + 1)) x364000 x364001 x364002 x364003)))) else (mapmakerlaw11_PolyPick.l0 k x0 x5 x6 (wrap64 (x7 + 1)) x364000 x364001 x364002 x364003)
end
def mapmakerlaw11_PolyPick.f (k : Nat) (l0 : List (S30)) : Option (Bool) := (mapmakerlaw11_few.f l0).bind fun t355 => (if t355 = true then ((poly_Simple.f k l0).bind fun t356 => (mapmakerlaw11_PolyPick.j0 k l0 (!t356))) else (mapmakerlaw11_PolyPick.j0 k l0 true))
theorem mapmakerlaw11_PolyPick.mono_l : ∀ k, (∀ y0 y1, LeO (mapmakerlaw11_PolyPick.j0 k y0 y1) (mapmakerlaw11_PolyPick.j0 (k + 1) y0 y1)) ∧ (∀ y0 y1 y2 y3 y4 y5, LeO (mapmakerlaw11_PolyPick.j1 k y0 y1 y2 y3 y4 y5) (mapmakerlaw11_PolyPick.j1 (k + 1) y0 y1 y2 y3 y4 y5)) ∧ (∀ y0 y1 y2 y3 y4 y5 y6 y7, LeO (mapmakerlaw11_PolyPick.l0 k y0 y1 y2 y3 y4 y5 y6 y7) (mapmakerlaw11_PolyPick.l0 (k + 1) y0 y1 y2 y3 y4 y5 y6 y7)) ∧ (∀ y0 y1 y2 y3 y4 y5 y6 y7 y8, LeO (mapmakerlaw11_PolyPick.l1 k y0 y1 y2 y3 y4 y5 y6 y7 y8) (mapmakerlaw11_PolyPick.l1 (k + 1) y0 y1 y2 y3 y4 y5 y6 y7 y8))
 | 0 => ⟨fun _ _ r h => by simp [mapmakerlaw11_PolyPick.j0] at h, fun _ _ _ _ _ _ r h => by simp [mapmakerlaw11_PolyPick.j1] at h, fun _ _ _ _ _ _ _ _ r h => by simp [mapmakerlaw11_PolyPick.l0] at h, fun _ _ _ _ _ _ _ _ _ r h => by simp [mapmakerlaw11_PolyPick.l1] at h⟩
 | k + 1 => by
  obtain ⟨ih0, ih1, ih2, ih3⟩ := mapmakerlaw11_PolyPick.mono_l k
  refine ⟨?_, ?_, ?_, ?_⟩
  ·intro y0 y1
   unfold mapmakerlaw11_PolyPick.j0
   repeat' first
   | (with_reducible exact ih0 _ _)
   | (with_reducible exact ih1 _ _ _ _ _ _)
   | (with_reducible exact ih2 _ _ _ _ _ _ _ _)
   | (with_reducible exact ih3 _ _ _ _ _ _ _ _ _)
   | (with_reducible exact mapmakerlaw11_lives.mono _)
   | (with_reducible exact mapmakerref08_Box.mono _ _)
   | (with_reducible exact poly_Simple.mono _ _)
   | (with_reducible exact poly_Where.mono _ _ _ _)
   | (with_reducible exact LeO.refl _)
   | (with_reducible exact LeO.none _)
   | (with_reducible refine LeO.ite ?_ ?_)
   | (with_reducible refine LeO.bind ?_ (fun _ => ?_))
   | exact ih0 _ _
   | exact ih1 _ _ _ _ _ _
   | exact ih2 _ _ _ _ _ _ _ _
   | exact ih3 _ _ _ _ _ _ _ _ _
   | exact mapmakerlaw11_lives.mono _
   | exact mapmakerref08_Box.mono _ _
   | exact poly_Simple.mono _ _
   | exact poly_Where.mono _ _ _ _
   | exact LeO.none _
   | refine LeO.ite ?_ ?_
   | refine LeO.bind ?_ (fun _ => ?_)
  ·intro y0 y1 y2 y3 y4 y5
   unfold mapmakerlaw11_PolyPick.j1
   repeat' first
   | (with_reducible exact ih0 _ _)
   | (with_reducible exact ih1 _ _ _ _ _ _)
   | (with_reducible exact ih2 _ _ _ _ _ _ _ _)
   | (with_reducible exact ih3 _ _ _ _ _ _ _ _ _)
   | (with_reducible exact mapmakerlaw11_lives.mono _)
   | (with_reducible exact mapmakerref08_Box.mono _ _)
   | (with_reducible exact poly_Simple.mono _ _)
   | (with_reducible exact poly_Where.mono _ _ _ _)
   | (with_reducible exact LeO.refl _)
   | (with_reducible exact LeO.none _)
   | (with_reducible refine LeO.ite ?_ ?_)
   | (with_reducible refine LeO.bind ?_ (fun _ => ?_))
   | exact ih0 _ _
   | exact ih1 _ _ _ _ _ _
   | exact ih2 _ _ _ _ _ _ _ _
   | exact ih3 _ _ _ _ _ _ _ _ _
   | exact mapmakerlaw11_lives.mono _
   | exact mapmakerref08_Box.mono _ _
   | exact poly_Simple.mono _ _
   | exact poly_Where.mono _ _ _ _
   | exact LeO.none _
   | refine LeO.ite ?_ ?_
   | refine LeO.bind ?_ (fun _ => ?_)
  ·intro y0 y1 y2 y3 y4 y5 y6 y7
   unfold mapmakerlaw11_PolyPick.l0
   repeat' first
   | (with_reducible exact ih0 _ _)
   | (with_reducible exact ih1 _ _ _ _ _ _)
   | (with_reducible exact ih2 _ _ _ _ _ _ _ _)
   | (with_reducible exact ih3 _ _ _ _ _ _ _ _ _)
   | (with_reducible exact mapmakerlaw11_lives.mono _)
   | (with_reducible exact mapmakerref08_Box.mono _ _)
   | (with_reducible exact poly_Simple.mono _ _)
   | (with_reducible exact poly_Where.mono _ _ _ _)
   | (with_reducible exact LeO.refl _)
   | (with_reducible exact LeO.none _)
   | (with_reducible refine LeO.ite ?_ ?_)
   | (with_reducible refine LeO.bind ?_ (fun _ => ?_))
   | exact ih0 _ _
   | exact ih1 _ _ _ _ _ _
   | exact ih2 _ _ _ _ _ _ _ _
   | exact ih3 _ _ _ _ _ _ _ _ _
   | exact mapmakerlaw11_lives.mono _
   | exact mapmakerref08_Box.mono _ _
   | exact poly_Simple.mono _ _
   | exact poly_Where.mono _ _ _ _
   | exact LeO.none _
   | refine LeO.ite ?_ ?_
   | refine LeO.bind ?_ (fun _ => ?_)
  ·intro y0 y1 y2 y3 y4 y5 y6 y7 y8
   unfold mapmakerlaw11_PolyPick.l1
   repeat' first
   | (with_reducible exact ih0 _ _)
   | (with_reducible exact ih1 _ _ _ _ _ _)
   | (with_reducible exact ih2 _ _ _ _ _ _ _ _)
   | (with_reducible exact ih3 _ _ _ _ _ _ _ _ _)
   | (with_reducible exact mapmakerlaw11_lives.mono _)
   | (with_reducible exact mapmakerref08_Box.mono _ _)
   | (with_reducible exact poly_Simple.mono _ _)
   | (with_reducible exact poly_Where.mono _ _ _ _)
   | (with_reducible exact LeO.refl _)
   | (with_reducible exact LeO.none _)
   | (with_reducible refine LeO.ite ?_ ?_)
   | (with_reducible refine LeO.bind ?_ (fun _ => ?_))
   | exact ih0 _ _
   | exact ih1 _ _ _ _ _ _
   | exact ih2 _ _ _ _ _ _ _ _
   | exact ih3 _ _ _ _ _ _ _ _ _
   | exact mapmakerlaw11_lives.mono _
   | exact mapmakerref08_Box.mono _ _
   | exact poly_Simple.mono _ _
   | exact poly_Where.mono _ _ _ _
   | exact LeO.none _
   | refine LeO.ite ?_ ?_
   | refine LeO.bind ?_ (fun _ => ?_)
theorem mapmakerlaw11_PolyPick.mono : ∀ a0 k, LeO (mapmakerlaw11_PolyPick.f k a0) (mapmakerlaw11_PolyPick.f (k + 1) a0) := by
 intro a0 k
 obtain ⟨ih0, ih1, ih2, ih3⟩ := mapmakerlaw11_PolyPick.mono_l k
 unfold mapmakerlaw11_PolyPick.f
 repeat' first
   | (with_reducible exact ih0 _ _)
   | (with_reducible exact ih1 _ _ _ _ _ _)
   | (with_reducible exact ih2 _ _ _ _ _ _ _ _)
   | (with_reducible exact ih3 _ _ _ _ _ _ _ _ _)
   | (with_reducible exact mapmakerlaw11_lives.mono _)
   | (with_reducible exact mapmakerref08_Box.mono _ _)
   | (with_reducible exact poly_Simple.mono _ _)
   | (with_reducible exact poly_Where.mono _ _ _ _)
   | (with_reducible exact LeO.refl _)
   | (with_reducible exact LeO.none _)
   | (with_reducible refine LeO.ite ?_ ?_)
   | (with_reducible refine LeO.bind ?_ (fun _ => ?_))
   | exact ih0 _ _
   | exact ih1 _ _ _ _ _ _
   | exact ih2 _ _ _ _ _ _ _ _
   | exact ih3 _ _ _ _ _ _ _ _ _
   | exact mapmakerlaw11_lives.mono _
   | exact mapmakerref08_Box.mono _ _
   | exact poly_Simple.mono _ _
   | exact poly_Where.mono _ _ _ _
   | exact LeO.none _
   | refine LeO.ite ?_ ?_
   | refine LeO.bind ?_ (fun _ => ?_)
set_option maxHeartbeats 8000000 in
set_option maxRecDepth 100000 in
theorem mapmakerlaw11_PolyPick.calls (k : Nat) (A0 : Option Addr) (c0 : Nat) (l0 : List (S30)) (r : Bool) (w : World) (hr0 : Kd.C k30 w A0 l0.length l0) (hc0 : l0.length ≤ c0) (h : mapmakerlaw11_PolyPick.f k l0 = some r) :
  Calls Try.prog 5 #[.slice A0 l0.length c0] w fun e w' => e = .returned (.bool r) ∧ Below w.heap.size w w' := by
 have hu34 := Try.underlying34; have hu30 := Try.underlying30; have HR0 := Aside0.mk hr0; have HC0 := Aside0.mk hc0; clear hr0 hc0; have HB := Aside0.mk (Below.refl w.heap.size w); have H : ((mapmakerlaw11_few.f l0).bind fun t355 => (if t355 = true then ((poly_Simple.f k l0).bind fun t356 => (mapmakerlaw11_PolyPick.j0 k l0 (!t356))) else (mapmakerlaw11_PolyPick.j0 k l0 true))) = some r := h; clear h; have HC2 := Aside0.mk H; clear H
 go_enter Try.func5, Try.ntmps5
 go_upto_region 1 with (fail)
 go_cut [17] (fun v17 wc => ∃ (kq : Nat) (x17_1 : Bool), v17 = .bool x17_1 ∧ Aside0 (mapmakerlaw11_PolyPick.j0 kq l0 x17_1 = some r) ∧ Aside0 (kq ≤ k) ∧ Aside0 (Below w.heap.size w wc))
 case first =>
  have H := HC2.out; clear HC2; replace H := Option.bind_eq_some_iff.mp H; obtain ⟨t355, A30, H⟩ := H; replace H : (if t355 = true then ((poly_Simple.f k l0).bind fun t356 => (mapmakerlaw11_PolyPick.j0 k l0 (!t356))) else (mapmakerlaw11_PolyPick.j0 k l0 true)) = some r := H; have A3 := Aside0.mk A30; clear A30
  by_cases c4 : t355 = true
  ·subst c4; have H1 : ((poly_Simple.f k l0).bind fun t356 => (mapmakerlaw11_PolyPick.j0 k l0 (!t356))) = some r := by rw [if_pos rfl] at H; exact H
   clear H; have H := H1; clear H1; replace H := Option.bind_eq_some_iff.mp H; obtain ⟨t356, A50, H⟩ := H; replace H : (mapmakerlaw11_PolyPick.j0 k l0 (!t356)) = some r := H; have A5 := Aside0.mk A50; clear A50; have H' := Aside0.mk H; clear H
   go_wp2_with (first | ((with_reducible refine gate_callee (f := 8) rfl ?_); refine goesL_ (some 11) rfl rfl Try.func8 (by kernel_rfl) rfl #[.slice A0 l0.length c0] rfl (by (try simp only [List.map_toArray, List.map_cons, List.map_nil]); first | done | rfl | (simp only [List.length_drop, List.length_take]; rfl)) ?_; (with_reducible refine (mapmakerlaw11_few.calls _ _ l0 true _ ?side1 ?side2 A3.out).mono ?_); (case side1 => repeat (first | exact (Kd.C_below HR0.out HB.out) | (with_reducible refine Kd.C_alloc ?_ _) | (with_reducible refine Kd.C_drewN ?_ _) | (with_reducible refine Kd.C_drew ?_))); (case side2 => exact HC0.out); rintro e w' ⟨rfl, ⟨nd, rfl⟩⟩; refine ⟨_, rfl, ?_⟩) | (go_at_call 12; (with_reducible refine (poly_Simple.calls k _ _ l0 t356 _ ?side1 ?side2 A5.out).mono ?_); (case side1 => repeat (first | exact (Kd.C_below HR0.out (by repeat with_reducible first | exact HB.out | apply below_alloc | apply pw_below_drewN | apply below_drew1)) | (with_reducible refine Kd.C_alloc ?_ _) | (with_reducible refine Kd.C_drewN ?_ _) | (with_reducible refine Kd.C_drew ?_))); (case side2 => exact HC0.out); rintro e w6 ⟨rfl, hb⟩; have n0_ := Aside0.mk (below_step (by repeat with_reducible first | exact HB.out | apply below_alloc | apply pw_below_drewN | apply below_drew1) hb); clear HB; have HB := n0_; clear n0_; (try clear hb); (try clear hb2); (try clear hk); (try clear hi)))
   go_meet
   case rel => exact ⟨_, (!t356), (by first | rfl | (simp; done) | (simp [*]; done)), H', ⟨by first | omega | exact Nat.le_refl _⟩, ⟨by repeat with_reducible first | exact HB.out | apply below_alloc | apply pw_below_drewN | apply below_drew1⟩⟩
  ·replace c4 := Bool.eq_false_iff.mpr c4; subst c4; have H1 : (mapmakerlaw11_PolyPick.j0 k l0 true) = some r := by rw [if_neg (show ¬ (false = true) by decide)] at H; exact H
   clear H; have H := H1; clear H1; have H' := Aside0.mk H; clear H
   go_wp2_with (first | ((with_reducible refine gate_callee (f := 8) rfl ?_); refine goesL_ (some 11) rfl rfl Try.func8 (by kernel_rfl) rfl #[.slice A0 l0.length c0] rfl (by (try simp only [List.map_toArray, List.map_cons, List.map_nil]); first | done | rfl | (simp only [List.length_drop, List.length_take]; rfl)) ?_; (with_reducible refine (mapmakerlaw11_few.calls _ _ l0 false _ ?side1 ?side2 A3.out).mono ?_); (case side1 => repeat (first | exact (Kd.C_below HR0.out HB.out) | (with_reducible refine Kd.C_alloc ?_ _) | (with_reducible refine Kd.C_drewN ?_ _) | (with_reducible refine Kd.C_drew ?_))); (case side2 => exact HC0.out); rintro e w' ⟨rfl, ⟨nd, rfl⟩⟩; refine ⟨_, rfl, ?_⟩))
   go_meet
   case rel => exact ⟨_, (true), (by first | rfl | (simp; done) | (simp [*]; done)), H', ⟨by first | omega | exact Nat.le_refl _⟩, ⟨by repeat with_reducible first | exact HB.out | apply below_alloc | apply pw_below_drewN | apply below_drew1⟩⟩
 case rest =>
  clear HC2
  try clear p2
  try clear c4
  try clear c5
  obtain ⟨kq, x17_1, rfl, HA, HJ1, HB⟩ := hcut
  cases kq with
  | zero => exact absurd HA.out (by simp [mapmakerlaw11_PolyPick.j0])
  | succ kj1 =>
   have H := HA.out; clear HA; simp only [mapmakerlaw11_PolyPick.j0] at H
   by_cases c7 : x17_1 = true
   ·subst c7; have H1 : ((mapmakerlaw11_lives.f kj1).bind fun t357 => (some t357)) = some r := by rw [if_pos rfl] at H; exact H
    clear H; have H := H1; clear H1; replace H := Option.bind_eq_some_iff.mp H; obtain ⟨t357, A80, H⟩ := H; replace H : (some t357) = some r := H; have A8 := Aside0.mk A80; clear A80; obtain rfl := Option.some.inj H
    go_wp2_with (first | ((with_reducible refine gate_callee (f := 9) rfl ?_); refine goesL_ (some 18) rfl rfl Try.func9 (by kernel_rfl) rfl #[] rfl (by (try simp only [List.map_toArray, List.map_cons, List.map_nil]); first | done | rfl | (simp only [List.length_drop, List.length_take]; rfl)) ?_; (with_reducible refine (mapmakerlaw11_lives.calls kj1  t357 _ A8.out).mono ?_); rintro e w9 ⟨rfl, hb⟩; refine ⟨_, rfl, ?_⟩; have n0_ := Aside0.mk (below_step (by repeat with_reducible first | exact HB.out | apply below_alloc | apply pw_below_drewN | apply below_drew1) hb); clear HB; have HB := n0_; clear n0_; (try clear hb); (try clear hb2); (try clear hk); (try clear hi)))
    go_ret
    exact ⟨by first | rfl | (simp [errW_none, errW_some] <;> rfl) | (simp [*, errW_none, errW_some] <;> rfl), by repeat with_reducible first | exact HB.out | apply below_alloc | apply pw_below_drewN | apply below_drew1⟩
   ·replace c7 := Bool.eq_false_iff.mpr c7; subst c7; have H1 : ((mapmakerref08_Box.f kj1 l0).bind fun bt358 => (if (wrap64 (bt358.2.2.1 - bt358.1)) > 40 then (mapmakerlaw11_PolyPick.j1 kj1 l0 true bt358.1 bt358.2.1 bt358.2.2.1 bt358.2.2.2.1) else (mapmakerlaw11_PolyPick.j1 kj1 l0 (decide ((wrap64 (bt358.2.2.2.1 - bt358.2.1)) > 40)) bt358.1 bt358.2.1 bt358.2.2.1 bt358.2.2.2.1))) = some r := by rw [if_neg (show ¬ (false = true) by decide)] at H; exact H
    clear H; have H := H1; clear H1; replace H := Option.bind_eq_some_iff.mp H; obtain ⟨⟨t358, t359, t360, t361, t362⟩, A100, H⟩ := H; replace H : (if (wrap64 (t360 - t358)) > 40 then (mapmakerlaw11_PolyPick.j1 kj1 l0 true t358 t359 t360 t361) else (mapmakerlaw11_PolyPick.j1 kj1 l0 (decide ((wrap64 (t361 - t359)) > 40)) t358 t359 t360 t361)) = some r := H; have A10 := Aside0.mk A100; clear A100; have HC11 := Aside0.mk H; clear H
    go_upto_region 4 with (first | ((with_reducible refine gate_callee (f := 19) rfl ?_); refine goesL_ (some 21) rfl rfl Try.func19 (by kernel_rfl) rfl #[.slice A0 l0.length c0] rfl (by (try simp only [List.map_toArray, List.map_cons, List.map_nil]); first | done | rfl | (simp only [List.length_drop, List.length_take]; rfl)) ?_; (with_reducible refine (mapmakerref08_Box.calls kj1 _ _ l0 t358 t359 t360 t361 t362 _ ?side1 ?side2 A10.out).mono ?_); (case side1 => repeat (first | exact (Kd.C_below HR0.out HB.out) | (with_reducible refine Kd.C_alloc ?_ _) | (with_reducible refine Kd.C_drewN ?_ _) | (with_reducible refine Kd.C_drew ?_))); (case side2 => exact HC0.out); rintro e w12 ⟨rfl, hb⟩; refine ⟨_, rfl, ?_⟩; have n0_ := Aside0.mk (below_step (by repeat with_reducible first | exact HB.out | apply below_alloc | apply pw_below_drewN | apply below_drew1) hb); clear HB; have HB := n0_; clear n0_; (try clear hb); (try clear hb2); (try clear hk); (try clear hi)) | ((with_reducible refine gate_dst (N := 3) rfl ?_); refine box_event ?hg (N := 3) ?hd (cs := #[.int .i64 0, .int .i64 0, .int .i64 0, .int .i64 0]) (t := 34) ?hr ?_; (case hd => rfl); (case hg => rfl); (case hr => first | (go_simp; done) | (go_simp; rfl)); intro gb363 hg w13 hbox hb; have n0_ := Aside0.mk (below_step (by repeat with_reducible first | exact HB.out | apply below_alloc | apply pw_below_drewN | apply below_drew1) hb); have n1_ := Aside0.mk (hbox); have n2_ := Aside0.mk ((by rw [hg]; exact (below_size (by repeat with_reducible first | exact HB.out | apply below_alloc | apply pw_below_drewN | apply below_drew1)) : w.heap.size ≤ gb363)); have n3_ := n2_; clear HB; have HB := n0_; have BK363 := n1_; have GW363 := n2_; have GE363 := n3_; clear n0_ n1_ n2_ n3_ hb hbox hg; have hcz14_0 : w13.cell? ⟨gb363, 0, none⟩ = some (.int .i64 0) := (blk_cell BK363.out 0).trans rfl; have hcz14_1 : w13.cell? ⟨gb363, 1, none⟩ = some (.int .i64 0) := (blk_cell BK363.out 1).trans rfl; have hcz14_2 : w13.cell? ⟨gb363, 2, none⟩ = some (.int .i64 0) := (blk_cell BK363.out 2).trans rfl; have hcz14_3 : w13.cell? ⟨gb363, 3, none⟩ = some (.int .i64 0) := (blk_cell BK363.out 3).trans rfl; have hfz14_0 := blk_frozen BK363.out 0; have hfz14_1 := blk_frozen BK363.out 1; have hfz14_2 := blk_frozen BK363.out 2; have hfz14_3 := blk_frozen BK363.out 3))
    (try simp only [Act.put, List.setIfInBounds_toArray, List.set_cons_zero, List.set_cons_succ])
    go_cut [37] (fun v37 wc => ∃ (kq : Nat) (x37_10 : Bool), v37 = .bool x37_10 ∧ Aside0 (mapmakerlaw11_PolyPick.j1 kq l0 x37_10 t358 t359 t360 t361 = some r) ∧ Aside0 (kq ≤ kj1) ∧ Aside0 (wc.heap[gb363]? = some (.cells #[.int .i64 t358, .int .i64 t359, .int .i64 t360, .int .i64 t361] 34 (0, 0))) ∧ Aside0 (Below w.heap.size w wc))
    case first =>
     have H := HC11.out; clear HC11
     by_cases c15 : (wrap64 (t360 - t358)) > 40
     ·rw [if_pos c15] at H
      have c15b0 : decide (40 < (wrap64 (t360 - t358))) = true := decide_eq_true c15; clear c15; (first | rw [c15b0] | (simp only [i64_w, i32_w]; rw [c15b0]) | skip); have H' := Aside0.mk H; clear H; have hcz16_0 : w13.cell? ⟨gb363, 0, none⟩ = some (.int .i64 0) := (blk_cell BK363.out 0).trans rfl; have hcz16_1 : w13.cell? ⟨gb363, 1, none⟩ = some (.int .i64 0) := (blk_cell BK363.out 1).trans rfl; have hcz16_2 : w13.cell? ⟨gb363, 2, none⟩ = some (.int .i64 0) := (blk_cell BK363.out 2).trans rfl; have hcz16_3 : w13.cell? ⟨gb363, 3, none⟩ = some (.int .i64 0) := (blk_cell BK363.out 3).trans rfl; have hfz16_0 := blk_frozen BK363.out 0; have hfz16_1 := blk_frozen BK363.out 1; have hfz16_2 := blk_frozen BK363.out 2; have hfz16_3 := blk_frozen BK363.out 3
      go_wp2
      go_meet
      case rel => exact ⟨_, (true), (by first | rfl | (simp; done) | (simp [*]; done)), H', ⟨by have := HJ1.out; first | omega | exact Nat.le_refl _⟩, ⟨by (with_reducible repeat first | apply blk_drewN | apply blk_drew | apply blk_alloc); refine blk_put (cs := #[.int .i64 t358, .int .i64 t359, .int .i64 t360, .int .i64 0]) ?_ 3 _ rfl; (with_reducible repeat first | apply blk_drewN | apply blk_drew | apply blk_alloc); refine blk_put (cs := #[.int .i64 t358, .int .i64 t359, .int .i64 0, .int .i64 0]) ?_ 2 _ rfl; (with_reducible repeat first | apply blk_drewN | apply blk_drew | apply blk_alloc); refine blk_put (cs := #[.int .i64 t358, .int .i64 0, .int .i64 0, .int .i64 0]) ?_ 1 _ rfl; (with_reducible repeat first | apply blk_drewN | apply blk_drew | apply blk_alloc); refine blk_put (cs := #[.int .i64 0, .int .i64 0, .int .i64 0, .int .i64 0]) ?_ 0 _ rfl; (with_reducible repeat first | apply blk_drewN | apply blk_drew | apply blk_alloc); exact BK363.out⟩, ⟨by repeat with_reducible first | exact HB.out | apply below_alloc | apply pw_below_drewN | apply below_drew1 | refine below_set ?_ GE363.out⟩⟩
     ·rw [if_neg c15] at H
      have c15b0 : decide (40 < (wrap64 (t360 - t358))) = false := decide_eq_false c15; clear c15; (first | rw [c15b0] | (simp only [i64_w, i32_w]; rw [c15b0]) | skip); have H' := Aside0.mk H; clear H; have hcz17_0 : w13.cell? ⟨gb363, 0, none⟩ = some (.int .i64 0) := (blk_cell BK363.out 0).trans rfl; have hcz17_1 : w13.cell? ⟨gb363, 1, none⟩ = some (.int .i64 0) := (blk_cell BK363.out 1).trans rfl; have hcz17_2 : w13.cell? ⟨gb363, 2, none⟩ = some (.int .i64 0) := (blk_cell BK363.out 2).trans rfl; have hcz17_3 : w13.cell? ⟨gb363, 3, none⟩ = some (.int .i64 0) := (blk_cell BK363.out 3).trans rfl; have hfz17_0 := blk_frozen BK363.out 0; have hfz17_1 := blk_frozen BK363.out 1; have hfz17_2 := blk_frozen BK363.out 2; have hfz17_3 := blk_frozen BK363.out 3
      go_wp2
      go_meet
      case rel => exact ⟨_, (decide ((wrap64 (t361 - t359)) > 40)), (by first | rfl | (simp; done) | (simp [*]; done)), H', ⟨by have := HJ1.out; first | omega | exact Nat.le_refl _⟩, ⟨by (with_reducible repeat first | apply blk_drewN | apply blk_drew | apply blk_alloc); refine blk_put (cs := #[.int .i64 t358, .int .i64 t359, .int .i64 t360, .int .i64 0]) ?_ 3 _ rfl; (with_reducible repeat first | apply blk_drewN | apply blk_drew | apply blk_alloc); refine blk_put (cs := #[.int .i64 t358, .int .i64 t359, .int .i64 0, .int .i64 0]) ?_ 2 _ rfl; (with_reducible repeat first | apply blk_drewN | apply blk_drew | apply blk_alloc); refine blk_put (cs := #[.int .i64 t358, .int .i64 0, .int .i64 0, .int .i64 0]) ?_ 1 _ rfl; (with_reducible repeat first | apply blk_drewN | apply blk_drew | apply blk_alloc); refine blk_put (cs := #[.int .i64 0, .int .i64 0, .int .i64 0, .int .i64 0]) ?_ 0 _ rfl; (with_reducible repeat first | apply blk_drewN | apply blk_drew | apply blk_alloc); exact BK363.out⟩, ⟨by repeat with_reducible first | exact HB.out | apply below_alloc | apply pw_below_drewN | apply below_drew1 | refine below_set ?_ GE363.out⟩⟩
    case rest =>
     clear HC11
     try clear c1
     try clear p2
     try clear c4
     try clear c5
     try clear p6
     try clear c7
     try clear c8
     try clear c9
     try clear c15
     try clear c15b0
     try clear hcz14_0
     try clear hcz14_1
     try clear hcz14_2
     try clear hcz14_3
     try clear hcz16_0
     try clear hcz16_1
     try clear hcz16_2
     try clear hcz16_3
     try clear hcz17_0
     try clear hcz17_1
     try clear hcz17_2
     try clear hcz17_3
     try clear hfz14_0
     try clear hfz14_1
     try clear hfz14_2
     try clear hfz14_3
     try clear hfz16_0
     try clear hfz16_1
     try clear hfz16_2
     try clear hfz16_3
     try clear hfz17_0
     try clear hfz17_1
     try clear hfz17_2
     try clear hfz17_3
     try clear p2
     obtain ⟨kq, x37_10, rfl, HA, HJ10, BK363, HB⟩ := hcut
     cases kq with
     | zero => exact absurd HA.out (by simp [mapmakerlaw11_PolyPick.j1])
     | succ kj10 =>
      have H := HA.out; clear HA; simp only [mapmakerlaw11_PolyPick.j1] at H
      by_cases c18 : x37_10 = true
      ·subst c18; have H1 : ((mapmakerlaw11_lives.f kj10).bind fun t364 => (some t364)) = some r := by rw [if_pos rfl] at H; exact H
       clear H; have H := H1; clear H1; replace H := Option.bind_eq_some_iff.mp H; obtain ⟨t364, A190, H⟩ := H; replace H : (some t364) = some r := H; have A19 := Aside0.mk A190; clear A190; obtain rfl := Option.some.inj H
       go_wp2_with (first | ((with_reducible refine gate_callee (f := 9) rfl ?_); refine goesL_ (some 38) rfl rfl Try.func9 (by kernel_rfl) rfl #[] rfl (by (try simp only [List.map_toArray, List.map_cons, List.map_nil]); first | done | rfl | (simp only [List.length_drop, List.length_take]; rfl)) ?_; (with_reducible refine (mapmakerlaw11_lives.calls kj10  t364 _ A19.out).mono ?_); rintro e w20 ⟨rfl, hb⟩; refine ⟨_, rfl, ?_⟩; have n0_ := Aside0.mk (blk_below (by (with_reducible repeat first | apply blk_drewN | apply blk_drew | apply blk_alloc); exact BK363.out) hb); have n1_ := Aside0.mk (below_step (by repeat with_reducible first | exact HB.out | apply below_alloc | apply pw_below_drewN | apply below_drew1 | refine below_set ?_ GE363.out) hb); clear BK363 HB; have BK363 := n0_; have HB := n1_; clear n0_ n1_; (try clear hb); (try clear hb2); (try clear hk); (try clear hi)))
       go_ret
       exact ⟨by first | rfl | (simp [errW_none, errW_some] <;> rfl) | (simp [*, errW_none, errW_some] <;> rfl), by repeat with_reducible first | exact HB.out | apply below_alloc | apply pw_below_drewN | apply below_drew1 | refine below_set ?_ GE363.out⟩
      ·replace c18 := Bool.eq_false_iff.mpr c18; subst c18; have H1 : (mapmakerlaw11_PolyPick.l0 kj10 l0 0 0 t359 t358 t359 t360 t361) = some r := by rw [if_neg (show ¬ (false = true) by decide)] at H; exact H
       clear H; have H := H1; clear H1; have H' := Aside0.mk H; clear H; have hcz21_0 : wc.cell? ⟨gb363, 0, none⟩ = some (.int .i64 t358) := (blk_cell BK363.out 0).trans rfl; have hcz21_1 : wc.cell? ⟨gb363, 1, none⟩ = some (.int .i64 t359) := (blk_cell BK363.out 1).trans rfl; have hcz21_2 : wc.cell? ⟨gb363, 2, none⟩ = some (.int .i64 t360) := (blk_cell BK363.out 2).trans rfl; have hcz21_3 : wc.cell? ⟨gb363, 3, none⟩ = some (.int .i64 t361) := (blk_cell BK363.out 3).trans rfl; have hfz21_0 := blk_frozen BK363.out 0; have hfz21_1 := blk_frozen BK363.out 1; have hfz21_2 := blk_frozen BK363.out 2; have hfz21_3 := blk_frozen BK363.out 3
       go_wp2
       go_loopg [5, 6, 7] kj10 (fun kq v5 v6 v7 w' => ∃ (x5_3 : Int) (x6_3 : Int) (x7_3 : Int), v5 = .int .i64 x5_3 ∧ v6 = .int .i64 x6_3 ∧ v7 = .int .i64 x7_3 ∧ Aside0 (mapmakerlaw11_PolyPick.l0 kq l0 x5_3 x6_3 x7_3 t358 t359 t360 t361 = some r) ∧ Aside0 (kq ≤ kj10) ∧ Aside0 (w'.heap[gb363]? = some (.cells #[.int .i64 t358, .int .i64 t359, .int .i64 t360, .int .i64 t361] 34 (0, 0))) ∧ Aside0 (Below w.heap.size w w'))
       case atStart => exact ⟨(0), (0), (t359), (by first | rfl | (simp; done) | (simp [*]; done)), (by first | rfl | (simp; done) | (simp [*]; done)), (by first | rfl | (simp; done) | (simp [*]; done)), H', ⟨Nat.le_refl _⟩, ⟨by (with_reducible repeat first | apply blk_drewN | apply blk_drew | apply blk_alloc); exact BK363.out⟩, ⟨by repeat with_reducible first | exact HB.out | apply below_alloc | apply pw_below_drewN | apply below_drew1 | refine below_set ?_ GE363.out⟩⟩
       case round =>
        clear H'
        try clear c1
        try clear p2
        try clear c4
        try clear c5
        try clear p6
        try clear c7
        try clear c8
        try clear c9
        try clear c15
        try clear c15b0
        try clear c18
        try clear c19
        try clear hcz14_0
        try clear hcz14_1
        try clear hcz14_2
        try clear hcz14_3
        try clear hcz16_0
        try clear hcz16_1
        try clear hcz16_2
        try clear hcz16_3
        try clear hcz17_0
        try clear hcz17_1
        try clear hcz17_2
        try clear hcz17_3
        try clear hcz21_0
        try clear hcz21_1
        try clear hcz21_2
        try clear hcz21_3
        try clear hfz14_0
        try clear hfz14_1
        try clear hfz14_2
        try clear hfz14_3
        try clear hfz16_0
        try clear hfz16_1
        try clear hfz16_2
        try clear hfz16_3
        try clear hfz17_0
        try clear hfz17_1
        try clear hfz17_2
        try clear hfz17_3
        try clear hfz21_0
        try clear hfz21_1
        try clear hfz21_2
        try clear hfz21_3
        try clear p2
        try clear p6
        obtain ⟨x5_3, x6_3, x7_3, rfl, rfl, rfl, HA, HK3, BK363, HB⟩ := hrel
        cases gk with
        | zero => exact absurd HA.out (by simp [mapmakerlaw11_PolyPick.l0])
        | succ k3 =>
         have H := HA.out; clear HA; simp only [mapmakerlaw11_PolyPick.l0] at H
         by_cases c22 : x7_3 ≤ t361
         ·rw [if_pos c22] at H
          have c22b0 : decide (x7_3 ≤ t361) = true := decide_eq_true c22; clear c22; have H' := Aside0.mk H; clear H; have hcz23_0 : wr.cell? ⟨gb363, 0, none⟩ = some (.int .i64 t358) := (blk_cell BK363.out 0).trans rfl; have hcz23_1 : wr.cell? ⟨gb363, 1, none⟩ = some (.int .i64 t359) := (blk_cell BK363.out 1).trans rfl; have hcz23_2 : wr.cell? ⟨gb363, 2, none⟩ = some (.int .i64 t360) := (blk_cell BK363.out 2).trans rfl; have hcz23_3 : wr.cell? ⟨gb363, 3, none⟩ = some (.int .i64 t361) := (blk_cell BK363.out 3).trans rfl; have hfz23_0 := blk_frozen BK363.out 0; have hfz23_1 := blk_frozen BK363.out 1; have hfz23_2 := blk_frozen BK363.out 2; have hfz23_3 := blk_frozen BK363.out 3
          go_wp2
          go_loopg [5, 6, 8] k3 (fun kq v5 v6 v8 w' => ∃ (x5_4 : Int) (x6_4 : Int) (x8_4 : Int), v5 = .int .i64 x5_4 ∧ v6 = .int .i64 x6_4 ∧ v8 = .int .i64 x8_4 ∧ Aside0 (mapmakerlaw11_PolyPick.l1 kq l0 x5_4 x6_4 x7_3 x8_4 t358 t359 t360 t361 = some r) ∧ Aside0 (kq ≤ k3) ∧ Aside0 (w'.heap[gb363]? = some (.cells #[.int .i64 t358, .int .i64 t359, .int .i64 t360, .int .i64 t361] 34 (0, 0))) ∧ Aside0 (Below w.heap.size w w'))
          case atStart => exact ⟨(x5_3), (x6_3), (t358), (by first | rfl | (simp; done) | (simp [*]; done)), (by first | rfl | (simp; done) | (simp [*]; done)), (by first | rfl | (simp; done) | (simp [*]; done)), H', ⟨Nat.le_refl _⟩, ⟨by (with_reducible repeat first | apply blk_drewN | apply blk_drew | apply blk_alloc); exact BK363.out⟩, ⟨by repeat with_reducible first | exact HB.out | apply below_alloc | apply pw_below_drewN | apply below_drew1 | refine below_set ?_ GE363.out⟩⟩
          case round =>
           clear H'
           try clear c1
           try clear c2
           try clear p2
           try clear c4
           try clear c5
           try clear p6
           try clear c7
           try clear c8
           try clear c9
           try clear c15
           try clear c15b0
           try clear c18
           try clear c19
           try clear c22
           try clear c22b0
           try clear hcz14_0
           try clear hcz14_1
           try clear hcz14_2
           try clear hcz14_3
           try clear hcz16_0
           try clear hcz16_1
           try clear hcz16_2
           try clear hcz16_3
           try clear hcz17_0
           try clear hcz17_1
           try clear hcz17_2
           try clear hcz17_3
           try clear hcz21_0
           try clear hcz21_1
           try clear hcz21_2
           try clear hcz21_3
           try clear hcz23_0
           try clear hcz23_1
           try clear hcz23_2
           try clear hcz23_3
           try clear hfz14_0
           try clear hfz14_1
           try clear hfz14_2
           try clear hfz14_3
           try clear hfz16_0
           try clear hfz16_1
           try clear hfz16_2
           try clear hfz16_3
           try clear hfz17_0
           try clear hfz17_1
           try clear hfz17_2
           try clear hfz17_3
           try clear hfz21_0
           try clear hfz21_1
           try clear hfz21_2
           try clear hfz21_3
           try clear hfz23_0
           try clear hfz23_1
           try clear hfz23_2
           try clear hfz23_3
           try clear p2
           try clear p6
           obtain ⟨x5_4, x6_4, x8_4, rfl, rfl, rfl, HA, HK4, BK363, HB⟩ := hrel
           cases gk with
           | zero => exact absurd HA.out (by simp [mapmakerlaw11_PolyPick.l1])
           | succ k4 =>
            have H := HA.out; clear HA; simp only [mapmakerlaw11_PolyPick.l1] at H
            by_cases c24 : x8_4 ≤ t360
            ·rw [if_pos c24] at H
             have c24b0 : decide (x8_4 ≤ t360) = true := decide_eq_true c24; clear c24; replace H := Option.bind_eq_some_iff.mp H; obtain ⟨t368, A250, H⟩ := H; replace H : (if t368 = 2 then (mapmakerlaw11_PolyPick.l1 k4 l0 (wrap64 (x5_4 + 1)) x6_4 x7_3 (wrap64 (x8_4 + 1)) t358 t359 t360 t361) else (if t368 = 1 then (mapmakerlaw11_PolyPick.l1 k4 l0 x5_4 (wrap64 (x6_4 + 1)) x7_3 (wrap64 (x8_4 + 1)) t358 t359 t360 t361) else (mapmakerlaw11_PolyPick.l1 k4 l0 x5_4 x6_4 x7_3 (wrap64 (x8_4 + 1)) t358 t359 t360 t361))) = some r := H; have A25 := Aside0.mk A250; clear A250
             by_cases c26 : t368 = 2
             ·rw [if_pos c26] at H
              have c26b0 : (t368 == 2) = true := beq_iff_eq.mpr c26; have c26b1 : (t368 != 2) = false := bne_eq_false_iff_eq.mpr c26; clear c26; have H' := Aside0.mk H; clear H; have hcz27_0 : wr.cell? ⟨gb363, 0, none⟩ = some (.int .i64 t358) := (blk_cell BK363.out 0).trans rfl; have hcz27_1 : wr.cell? ⟨gb363, 1, none⟩ = some (.int .i64 t359) := (blk_cell BK363.out 1).trans rfl; have hcz27_2 : wr.cell? ⟨gb363, 2, none⟩ = some (.int .i64 t360) := (blk_cell BK363.out 2).trans rfl; have hcz27_3 : wr.cell? ⟨gb363, 3, none⟩ = some (.int .i64 t361) := (blk_cell BK363.out 3).trans rfl; have hfz27_0 := blk_frozen BK363.out 0; have hfz27_1 := blk_frozen BK363.out 1; have hfz27_2 := blk_frozen BK363.out 2; have hfz27_3 := blk_frozen BK363.out 3
              go_wp2_with (first | ((with_reducible refine gate_callee (f := 17) rfl ?_); refine goesL_ (some 59) rfl rfl Try.func17 (by kernel_rfl) rfl #[.slice A0 l0.length c0, .agg #[.int .i64 x8_4, .int .i64 x7_3]] rfl (by (try simp only [List.map_toArray, List.map_cons, List.map_nil]); first | done | rfl | (simp only [List.length_drop, List.length_take]; rfl)) ?_; (with_reducible refine (poly_Where.calls k4 _ _ l0 x8_4 x7_3 t368 _ ?side1 ?side2 A25.out).mono ?_); (case side1 => repeat (first | exact (Kd.C_below HR0.out HB.out) | (with_reducible refine Kd.C_alloc ?_ _) | (with_reducible refine Kd.C_drewN ?_ _) | (with_reducible refine Kd.C_drew ?_))); (case side2 => exact HC0.out); rintro e w28 ⟨rfl, hb⟩; refine ⟨_, rfl, ?_⟩; have n0_ := Aside0.mk (blk_below (by (with_reducible repeat first | apply blk_drewN | apply blk_drew | apply blk_alloc); exact BK363.out) hb); have n1_ := Aside0.mk (below_step (by repeat with_reducible first | exact HB.out | apply below_alloc | apply pw_below_drewN | apply below_drew1 | refine below_set ?_ GE363.out) hb); clear BK363 HB; have BK363 := n0_; have HB := n1_; clear n0_ n1_; (try clear hb); (try clear hb2); (try clear hk); (try clear hi)))
              go_roundg k4
              case measure => have := HJ1.out; have := HJ10.out; have := HK3.out; have := HK4.out; omega
              case rel => exact ⟨(wrap64 (x5_4 + 1)), (x6_4), (wrap64 (x8_4 + 1)), (by first | rfl | (simp; done) | (simp [*]; done)), (by first | rfl | (simp; done) | (simp [*]; done)), (by first | rfl | (simp; done) | (simp [*]; done)), H', ⟨by have := HJ1.out; have := HJ10.out; have := HK3.out; have := HK4.out; omega⟩, ⟨by (with_reducible repeat first | apply blk_drewN | apply blk_drew | apply blk_alloc); exact BK363.out⟩, ⟨by repeat with_reducible first | exact HB.out | apply below_alloc | apply pw_below_drewN | apply below_drew1 | refine below_set ?_ GE363.out⟩⟩
             ·rw [if_neg c26] at H
              have c26b0 : (t368 == 2) = false := beq_eq_false_iff_ne.mpr c26; have c26b1 : (t368 != 2) = true := bne_iff_ne.mpr c26
              by_cases c29 : t368 = 1
              ·rw [if_pos c29] at H
               have c29b0 : (t368 == 1) = true := beq_iff_eq.mpr c29; have c29b1 : (t368 != 1) = false := bne_eq_false_iff_eq.mpr c29; clear c29; have H' := Aside0.mk H; clear H; have hcz30_0 : wr.cell? ⟨gb363, 0, none⟩ = some (.int .i64 t358) := (blk_cell BK363.out 0).trans rfl; have hcz30_1 : wr.cell? ⟨gb363, 1, none⟩ = some (.int .i64 t359) := (blk_cell BK363.out 1).trans rfl; have hcz30_2 : wr.cell? ⟨gb363, 2, none⟩ = some (.int .i64 t360) := (blk_cell BK363.out 2).trans rfl; have hcz30_3 : wr.cell? ⟨gb363, 3, none⟩ = some (.int .i64 t361) := (blk_cell BK363.out 3).trans rfl; have hfz30_0 := blk_frozen BK363.out 0; have hfz30_1 := blk_frozen BK363.out 1; have hfz30_2 := blk_frozen BK363.out 2; have hfz30_3 := blk_frozen BK363.out 3
               go_wp2_with (first | ((with_reducible refine gate_callee (f := 17) rfl ?_); refine goesL_ (some 59) rfl rfl Try.func17 (by kernel_rfl) rfl #[.slice A0 l0.length c0, .agg #[.int .i64 x8_4, .int .i64 x7_3]] rfl (by (try simp only [List.map_toArray, List.map_cons, List.map_nil]); first | done | rfl | (simp only [List.length_drop, List.length_take]; rfl)) ?_; (with_reducible refine (poly_Where.calls k4 _ _ l0 x8_4 x7_3 t368 _ ?side1 ?side2 A25.out).mono ?_); (case side1 => repeat (first | exact (Kd.C_below HR0.out HB.out) | (with_reducible refine Kd.C_alloc ?_ _) | (with_reducible refine Kd.C_drewN ?_ _) | (with_reducible refine Kd.C_drew ?_))); (case side2 => exact HC0.out); rintro e w31 ⟨rfl, hb⟩; refine ⟨_, rfl, ?_⟩; have n0_ := Aside0.mk (blk_below (by (with_reducible repeat first | apply blk_drewN | apply blk_drew | apply blk_alloc); exact BK363.out) hb); have n1_ := Aside0.mk (below_step (by repeat with_reducible first | exact HB.out | apply below_alloc | apply pw_below_drewN | apply below_drew1 | refine below_set ?_ GE363.out) hb); clear BK363 HB; have BK363 := n0_; have HB := n1_; clear n0_ n1_; (try clear hb); (try clear hb2); (try clear hk); (try clear hi)))
               go_roundg k4
               case measure => have := HJ1.out; have := HJ10.out; have := HK3.out; have := HK4.out; omega
               case rel => exact ⟨(x5_4), (wrap64 (x6_4 + 1)), (wrap64 (x8_4 + 1)), (by first | rfl | (simp; done) | (simp [*]; done)), (by first | rfl | (simp; done) | (simp [*]; done)), (by first | rfl | (simp; done) | (simp [*]; done)), H', ⟨by have := HJ1.out; have := HJ10.out; have := HK3.out; have := HK4.out; omega⟩, ⟨by (with_reducible repeat first | apply blk_drewN | apply blk_drew | apply blk_alloc); exact BK363.out⟩, ⟨by repeat with_reducible first | exact HB.out | apply below_alloc | apply pw_below_drewN | apply below_drew1 | refine below_set ?_ GE363.out⟩⟩
              ·rw [if_neg c29] at H
               have c29b0 : (t368 == 1) = false := beq_eq_false_iff_ne.mpr c29; have c29b1 : (t368 != 1) = true := bne_iff_ne.mpr c29; have H' := Aside0.mk H; clear H; have hcz32_0 : wr.cell? ⟨gb363, 0, none⟩ = some (.int .i64 t358) := (blk_cell BK363.out 0).trans rfl; have hcz32_1 : wr.cell? ⟨gb363, 1, none⟩ = some (.int .i64 t359) := (blk_cell BK363.out 1).trans rfl; have hcz32_2 : wr.cell? ⟨gb363, 2, none⟩ = some (.int .i64 t360) := (blk_cell BK363.out 2).trans rfl; have hcz32_3 : wr.cell? ⟨gb363, 3, none⟩ = some (.int .i64 t361) := (blk_cell BK363.out 3).trans rfl; have hfz32_0 := blk_frozen BK363.out 0; have hfz32_1 := blk_frozen BK363.out 1; have hfz32_2 := blk_frozen BK363.out 2; have hfz32_3 := blk_frozen BK363.out 3
               go_wp2_with (first | ((with_reducible refine gate_callee (f := 17) rfl ?_); refine goesL_ (some 59) rfl rfl Try.func17 (by kernel_rfl) rfl #[.slice A0 l0.length c0, .agg #[.int .i64 x8_4, .int .i64 x7_3]] rfl (by (try simp only [List.map_toArray, List.map_cons, List.map_nil]); first | done | rfl | (simp only [List.length_drop, List.length_take]; rfl)) ?_; (with_reducible refine (poly_Where.calls k4 _ _ l0 x8_4 x7_3 t368 _ ?side1 ?side2 A25.out).mono ?_); (case side1 => repeat (first | exact (Kd.C_below HR0.out HB.out) | (with_reducible refine Kd.C_alloc ?_ _) | (with_reducible refine Kd.C_drewN ?_ _) | (with_reducible refine Kd.C_drew ?_))); (case side2 => exact HC0.out); rintro e w33 ⟨rfl, hb⟩; refine ⟨_, rfl, ?_⟩; have n0_ := Aside0.mk (blk_below (by (with_reducible repeat first | apply blk_drewN | apply blk_drew | apply blk_alloc); exact BK363.out) hb); have n1_ := Aside0.mk (below_step (by repeat with_reducible first | exact HB.out | apply below_alloc | apply pw_below_drewN | apply below_drew1 | refine below_set ?_ GE363.out) hb); clear BK363 HB; have BK363 := n0_; have HB := n1_; clear n0_ n1_; (try clear hb); (try clear hb2); (try clear hk); (try clear hi)))
               go_roundg k4
               case measure => have := HJ1.out; have := HJ10.out; have := HK3.out; have := HK4.out; omega
               case rel => exact ⟨(x5_4), (x6_4), (wrap64 (x8_4 + 1)), (by first | rfl | (simp; done) | (simp [*]; done)), (by first | rfl | (simp; done) | (simp [*]; done)), (by first | rfl | (simp; done) | (simp [*]; done)), H', ⟨by have := HJ1.out; have := HJ10.out; have := HK3.out; have := HK4.out; omega⟩, ⟨by (with_reducible repeat first | apply blk_drewN | apply blk_drew | apply blk_alloc); exact BK363.out⟩, ⟨by repeat with_reducible first | exact HB.out | apply below_alloc | apply pw_below_drewN | apply below_drew1 | refine below_set ?_ GE363.out⟩⟩
            ·rw [if_neg c24] at H
             have c24b0 : decide (x8_4 ≤ t360) = false := decide_eq_false c24; clear c24; have H' := Aside0.mk H; clear H; have hcz34_0 : wr.cell? ⟨gb363, 0, none⟩ = some (.int .i64 t358) := (blk_cell BK363.out 0).trans rfl; have hcz34_1 : wr.cell? ⟨gb363, 1, none⟩ = some (.int .i64 t359) := (blk_cell BK363.out 1).trans rfl; have hcz34_2 : wr.cell? ⟨gb363, 2, none⟩ = some (.int .i64 t360) := (blk_cell BK363.out 2).trans rfl; have hcz34_3 : wr.cell? ⟨gb363, 3, none⟩ = some (.int .i64 t361) := (blk_cell BK363.out 3).trans rfl; have hfz34_0 := blk_frozen BK363.out 0; have hfz34_1 := blk_frozen BK363.out 1; have hfz34_2 := blk_frozen BK363.out 2; have hfz34_3 := blk_frozen BK363.out 3
             go_wp2
             go_roundg k4
             case measure => have := HJ1.out; have := HJ10.out; have := HK3.out; have := HK4.out; omega
             case rel => exact ⟨(x5_4), (x6_4), (wrap64 (x7_3 + 1)), (by first | rfl | (simp; done) | (simp [*]; done)), (by first | rfl | (simp; done) | (simp [*]; done)), (by first | rfl | (simp; done) | (simp [*]; done)), H', ⟨by have := HJ1.out; have := HJ10.out; have := HK3.out; have := HK4.out; omega⟩, ⟨by (with_reducible repeat first | apply blk_drewN | apply blk_drew | apply blk_alloc); exact BK363.out⟩, ⟨by repeat with_reducible first | exact HB.out | apply below_alloc | apply pw_below_drewN | apply below_drew1 | refine below_set ?_ GE363.out⟩⟩
         ·rw [if_neg c22] at H
          have c22b0 : decide (x7_3 ≤ t361) = false := decide_eq_false c22; clear c22; replace H := Option.bind_eq_some_iff.mp H; obtain ⟨t365, A350, H⟩ := H; replace H : (if t365 = (wrap64 ((wrap64 ((wrap64 (2 * x5_3)) + x6_3)) - 2)) then ((mapmakerlaw11_lives.f k3).bind fun t366 => (some t366)) else (if (wrap64 (-t365)) = (wrap64 ((wrap64 ((wrap64 (2 * x5_3)) + x6_3)) - 2)) then ((mapmakerlaw11_lives.f k3).bind fun t367 => (some t367)) else (none))) = some r := H; have A35 := Aside0.mk A350; clear A350
          by_cases c36 : t365 = (wrap64 ((wrap64 ((wrap64 (2 * x5_3)) + x6_3)) - 2))
          ·rw [if_pos c36] at H
           have c36b0 : (t365 == (wrap64 ((wrap64 ((wrap64 (2 * x5_3)) + x6_3)) - 2))) = true := beq_iff_eq.mpr c36; have c36b1 : (t365 != (wrap64 ((wrap64 ((wrap64 (2 * x5_3)) + x6_3)) - 2))) = false := bne_eq_false_iff_eq.mpr c36; clear c36; replace H := Option.bind_eq_some_iff.mp H; obtain ⟨t366, A370, H⟩ := H; replace H : (some t366) = some r := H; have A37 := Aside0.mk A370; clear A370; obtain rfl := Option.some.inj H; have hcz38_0 : wr.cell? ⟨gb363, 0, none⟩ = some (.int .i64 t358) := (blk_cell BK363.out 0).trans rfl; have hcz38_1 : wr.cell? ⟨gb363, 1, none⟩ = some (.int .i64 t359) := (blk_cell BK363.out 1).trans rfl; have hcz38_2 : wr.cell? ⟨gb363, 2, none⟩ = some (.int .i64 t360) := (blk_cell BK363.out 2).trans rfl; have hcz38_3 : wr.cell? ⟨gb363, 3, none⟩ = some (.int .i64 t361) := (blk_cell BK363.out 3).trans rfl; have hfz38_0 := blk_frozen BK363.out 0; have hfz38_1 := blk_frozen BK363.out 1; have hfz38_2 := blk_frozen BK363.out 2; have hfz38_3 := blk_frozen BK363.out 3
           go_wp2_with (first | ((with_reducible refine gate_callee (f := 10) rfl ?_); refine goesL_ (some 69) rfl rfl Try.func10 (by kernel_rfl) rfl #[.slice A0 l0.length c0] rfl (by (try simp only [List.map_toArray, List.map_cons, List.map_nil]); first | done | rfl | (simp only [List.length_drop, List.length_take]; rfl)) ?_; (with_reducible refine (poly_Area2.calls _ _ l0 t365 _ ?side1 ?side2 A35.out).mono ?_); (case side1 => repeat (first | exact (Kd.C_below HR0.out HB.out) | (with_reducible refine Kd.C_alloc ?_ _) | (with_reducible refine Kd.C_drewN ?_ _) | (with_reducible refine Kd.C_drew ?_))); (case side2 => exact HC0.out); rintro e w39 ⟨rfl, hb⟩; refine ⟨_, rfl, ?_⟩; have n0_ := Aside0.mk (blk_below (by (with_reducible repeat first | apply blk_drewN | apply blk_drew | apply blk_alloc); exact BK363.out) hb); have n1_ := Aside0.mk (below_step (by repeat with_reducible first | exact HB.out | apply below_alloc | apply pw_below_drewN | apply below_drew1 | refine below_set ?_ GE363.out) hb); clear BK363 HB; have BK363 := n0_; have HB := n1_; clear n0_ n1_; (try clear hb); (try clear hb2); (try clear hk); (try clear hi)) | (go_at_call 9; (with_reducible refine (mapmakerlaw11_lives.calls k3  t366 _ A37.out).mono ?_); rintro e w40 ⟨rfl, hb⟩; have n0_ := Aside0.mk (blk_below (by (with_reducible repeat first | apply blk_drewN | apply blk_drew | apply blk_alloc); exact BK363.out) hb); have n1_ := Aside0.mk (below_step (by repeat with_reducible first | exact HB.out | apply below_alloc | apply pw_below_drewN | apply below_drew1 | refine below_set ?_ GE363.out) hb); clear BK363 HB; have BK363 := n0_; have HB := n1_; clear n0_ n1_; (try clear hb); (try clear hb2); (try clear hk); (try clear hi)))
           go_ret
           exact ⟨by first | rfl | (simp [errW_none, errW_some] <;> rfl) | (simp [*, errW_none, errW_some] <;> rfl), by repeat with_reducible first | exact HB.out | apply below_alloc | apply pw_below_drewN | apply below_drew1 | refine below_set ?_ GE363.out⟩
          ·rw [if_neg c36] at H
           have c36b0 : (t365 == (wrap64 ((wrap64 ((wrap64 (2 * x5_3)) + x6_3)) - 2))) = false := beq_eq_false_iff_ne.mpr c36; have c36b1 : (t365 != (wrap64 ((wrap64 ((wrap64 (2 * x5_3)) + x6_3)) - 2))) = true := bne_iff_ne.mpr c36
           by_cases c41 : (wrap64 (-t365)) = (wrap64 ((wrap64 ((wrap64 (2 * x5_3)) + x6_3)) - 2))
           ·rw [if_pos c41] at H
            have c41b0 : ((wrap64 (-t365)) == (wrap64 ((wrap64 ((wrap64 (2 * x5_3)) + x6_3)) - 2))) = true := beq_iff_eq.mpr c41; have c41b1 : ((wrap64 (-t365)) != (wrap64 ((wrap64 ((wrap64 (2 * x5_3)) + x6_3)) - 2))) = false := bne_eq_false_iff_eq.mpr c41; clear c41; replace H := Option.bind_eq_some_iff.mp H; obtain ⟨t367, A420, H⟩ := H; replace H : (some t367) = some r := H; have A42 := Aside0.mk A420; clear A420; obtain rfl := Option.some.inj H; have hcz43_0 : wr.cell? ⟨gb363, 0, none⟩ = some (.int .i64 t358) := (blk_cell BK363.out 0).trans rfl; have hcz43_1 : wr.cell? ⟨gb363, 1, none⟩ = some (.int .i64 t359) := (blk_cell BK363.out 1).trans rfl; have hcz43_2 : wr.cell? ⟨gb363, 2, none⟩ = some (.int .i64 t360) := (blk_cell BK363.out 2).trans rfl; have hcz43_3 : wr.cell? ⟨gb363, 3, none⟩ = some (.int .i64 t361) := (blk_cell BK363.out 3).trans rfl; have hfz43_0 := blk_frozen BK363.out 0; have hfz43_1 := blk_frozen BK363.out 1; have hfz43_2 := blk_frozen BK363.out 2; have hfz43_3 := blk_frozen BK363.out 3
            go_wp2_with (first | ((with_reducible refine gate_callee (f := 10) rfl ?_); refine goesL_ (some 69) rfl rfl Try.func10 (by kernel_rfl) rfl #[.slice A0 l0.length c0] rfl (by (try simp only [List.map_toArray, List.map_cons, List.map_nil]); first | done | rfl | (simp only [List.length_drop, List.length_take]; rfl)) ?_; (with_reducible refine (poly_Area2.calls _ _ l0 t365 _ ?side1 ?side2 A35.out).mono ?_); (case side1 => repeat (first | exact (Kd.C_below HR0.out HB.out) | (with_reducible refine Kd.C_alloc ?_ _) | (with_reducible refine Kd.C_drewN ?_ _) | (with_reducible refine Kd.C_drew ?_))); (case side2 => exact HC0.out); rintro e w44 ⟨rfl, hb⟩; refine ⟨_, rfl, ?_⟩; have n0_ := Aside0.mk (blk_below (by (with_reducible repeat first | apply blk_drewN | apply blk_drew | apply blk_alloc); exact BK363.out) hb); have n1_ := Aside0.mk (below_step (by repeat with_reducible first | exact HB.out | apply below_alloc | apply pw_below_drewN | apply below_drew1 | refine below_set ?_ GE363.out) hb); clear BK363 HB; have BK363 := n0_; have HB := n1_; clear n0_ n1_; (try clear hb); (try clear hb2); (try clear hk); (try clear hi)) | (go_at_call 9; (with_reducible refine (mapmakerlaw11_lives.calls k3  t367 _ A42.out).mono ?_); rintro e w45 ⟨rfl, hb⟩; have n0_ := Aside0.mk (blk_below (by (with_reducible repeat first | apply blk_drewN | apply blk_drew | apply blk_alloc); exact BK363.out) hb); have n1_ := Aside0.mk (below_step (by repeat with_reducible first | exact HB.out | apply below_alloc | apply pw_below_drewN | apply below_drew1 | refine below_set ?_ GE363.out) hb); clear BK363 HB; have BK363 := n0_; have HB := n1_; clear n0_ n1_; (try clear hb); (try clear hb2); (try clear hk); (try clear hi)))
            go_ret
            exact ⟨by first | rfl | (simp [errW_none, errW_some] <;> rfl) | (simp [*, errW_none, errW_some] <;> rfl), by repeat with_reducible first | exact HB.out | apply below_alloc | apply pw_below_drewN | apply below_drew1 | refine below_set ?_ GE363.out⟩
           ·rw [if_neg c41] at H
            exact absurd H (by simp)

/-- THE ONE PURE STATEMENT of mapmakerlaw11_PolyPick. -/
def mapmakerlaw11_PolyPick.Pure : Prop := ∀ (l0 : List (S30)), (l0.length ≤ maxLen ∧ ∀ x_ ∈ l0, (Lit.int .i64 x_.f0).wf = true ∧ (Lit.int .i64 x_.f1).wf = true) → ∃ k, mapmakerlaw11_PolyPick.f k l0 = some true

end Go.Proofs.Ytggafoldccikdaa.PAll
