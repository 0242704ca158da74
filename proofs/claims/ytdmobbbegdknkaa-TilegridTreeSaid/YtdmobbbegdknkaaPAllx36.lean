-- Written by a program of this session (wip/tools), over the words that print.sh lays. (slim)
import Derived.Test.YtdmobbbegdknkaaPAllx0
import Derived.Test.YtdmobbbegdknkaaPAllx1
import Derived.Test.YtdmobbbegdknkaaPAllx2
import Derived.Test.YtdmobbbegdknkaaPAllx18
import Derived.Test.YtdmobbbegdknkaaPAllx20
import Derived.Test.YtdmobbbegdknkaaPAllx29
import Derived.Test.YtdmobbbegdknkaaPAllx32
import Derived.Test.YtdmobbbegdknkaaPAllx34
import Derived.Test.YtdmobbbegdknkaaPAllx35
namespace Go.Proofs.Ytdmobbbegdknkaa.PAll
open Go.RowKit Go.Proofs.YtdmobbbegdknkaaW.PrintWords Go.Proofs.YtdmobbbegdknkaaW.PrintLast Go.Proofs.YtdmobbbegdknkaaW.PrintMore
attribute [local go_sem] max2_int min2_int max_two min_two max_three min_three max_four min_four   -- for this text's walks alone
set_option linter.unusedVariables false
set_option linter.unusedSimpArgs false
attribute [local irreducible] Calls

attribute [local go_sem high] eqA23 eqA30
/-! ### mapmakerlaw28_TilegridTree: function 7 -/
mutual
def mapmakerlaw28_TilegridTree.j0 : Nat → List (S30) → Int → Bool → Int → Int → Int → Int → Int → Int → Int → Option (Bool)
 | 0, _, _, _, _, _, _, _, _, _, _ => none
 | k + 1, x3, x5, x25, x280000, x280001, x280002, x289000, x289001, x289002, x289003 => if x25 = true then (if (x3.length : Int) = 0 then (if x5 = 0 then (if x280000 = 7 then ((mapmakerlaw28_lives.f k).bind fun t289 => (some t289)) else (none)) else ((mapmakerlaw28_lives.f k).bind fun t290 => (some t290))) else (none)) else (mapmakerlaw28_TilegridTree.l0 k x3 0 0 x280000 x280001 x280002 x289000 x289001 x289002 x289003)
def mapmakerlaw28_TilegridTree.l0 : Nat → List (S30) → Int → Int → Int → Int → Int → Int → Int → Int → Int → Option (Bool)
 | 0, _, _, _, _, _, _, _, _, _, _ => none
 | k + 1, x3, x6, x7, x280000, x280001, x280002, x289000, x289001, x289002, x289003 => if x7 < (x3.length : Int) then (if 0 ≤ x7 then ((tilegrid_Parent.f ((rd_T30 x3 x7).f0) ((rd_T30 x3 x7).f1) ((rd_T30 x3 x7).f2)).bind fun bt293 => ((tilegrid_Box.f ((rd_T30 x3 x7).f0) ((rd_T30 x3 x7).f1) ((rd_T30 x3 x7).f2)).bind fun bt299 => (if bt293.2.2.2 = true then (if (!(bt293.1 == x280000) || (!(bt293.2.1 == x280001) || (!(bt293.2.2.1 == x280002)))) = true then (none) else (if bt299.2.2.2.2 = 0 then (if x7 > 0 then (if 0 ≤ (wrap64 (x7 - 1)) then (if (wrap64 (x7 - 1)) < (x3.length : Int) then ((tilegrid_Less.f ((rd_T30 x3 (wrap64 (x7 - 1))).f0) ((rd_T30 x3 (wrap64 (x7 - 1))).f1) ((rd_T30 x3 (wrap64 (x7 - 1))).f2) ((rd_T30 x3 x7).f0) ((rd_T30 x3 x7).f1) ((rd_T30 x3 x7).f2)).bind fun t307 => (if t307 = true then ((mapmakerref08_Join.f x289000 x289001 x289002 x289003 bt299.1 bt299.2.1 bt299.2.2.1 bt299.2.2.2.1).bind fun bt308 => (if (!(bt308.1 == x289000) || (!(bt308.2.1 == x289001) || (!(bt308.2.2.1 == x289002) || (!(bt308.2.2.2 == x289003))))) = true then (none) else (mapmakerlaw28_TilegridTree.l0 k x3 (wrap64 (x6 + (wrap64 ((wrap64 (bt299.2.2.1 - bt299.1)) * (wrap64 (bt299.2.2.2.1 - bt299.2.1)))))) (wrap64 (x7 + 1)) x280000 x280001 x280002 x289000 x289001 x289002 x289003))) else (none))) else (none)) else (none)) else ((mapmakerref08_Join.f x289000 x289001 x289002 x289003 bt299.1 bt299.2.1 bt299.2.2.1 bt299.2.2.2.1).bind fun bt312 => (if (!(bt312.1 == x289000) || (!(bt312.2.1 == x289001) || (!(bt312.2.2.1 == x289002) || (!(bt312.2.2.2 == x289003))))) = true then (none) else (mapmakerlaw28_TilegridTree.l0 k x3 (wrap64 (x6 + (wrap64 ((wrap64 (bt299.2.2.1 - bt299.1)) * (wrap64 (bt299.2.2.2.1 - bt299.2.1)))))) (wrap64 (x7 + 1)) x280000 x280001 x280002 x289000 x289001 x289002 x289003)))) else (none))) else (none)))) else (none)) else (if (x3.length : Int) = 4 then (if x6 = (wrap64 ((wrap64 (x289002 - x289000)) * (wrap64 (x289003 - x289001)))) then ((mapmakerlaw28_lives.f k).bind fun t291 => (some t291)) else (none)) else (none))
end
def mapmakerlaw28_TilegridTree.f (k : Nat) (a0_0 : Int) (a0_1 : Int) (a0_2 : Int) : Option (Bool) := (tilegrid_Children.f k a0_0 a0_1 a0_2).bind fun t280 => ((tilegrid_Box.f a0_0 a0_1 a0_2).bind fun bt283 => (if bt283.2.2.2.2 = 0 then (mapmakerlaw28_TilegridTree.j0 k t280 bt283.2.2.2.2 ((t280.length : Int) == 0) a0_0 a0_1 a0_2 bt283.1 bt283.2.1 bt283.2.2.1 bt283.2.2.2.1) else (mapmakerlaw28_TilegridTree.j0 k t280 bt283.2.2.2.2 true a0_0 a0_1 a0_2 bt283.1 bt283.2.1 bt283.2.2.1 bt283.2.2.2.1)))
theorem mapmakerlaw28_TilegridTree.mono_l : ∀ k, (∀ y0 y1 y2 y3 y4 y5 y6 y7 y8 y9, LeO (mapmakerlaw28_TilegridTree.j0 k y0 y1 y2 y3 y4 y5 y6 y7 y8 y9) (mapmakerlaw28_TilegridTree.j0 (k + 1) y0 y1 y2 y3 y4 y5 y6 y7 y8 y9)) ∧ (∀ y0 y1 y2 y3 y4 y5 y6 y7 y8 y9, LeO (mapmakerlaw28_TilegridTree.l0 k y0 y1 y2 y3 y4 y5 y6 y7 y8 y9) (mapmakerlaw28_TilegridTree.l0 (k + 1) y0 y1 y2 y3 y4 y5 y6 y7 y8 y9))
 | 0 => ⟨fun _ _ _ _ _ _ _ _ _ _ r h => by simp [mapmakerlaw28_TilegridTree.j0] at h, fun _ _ _ _ _ _ _ _ _ _ r h => by simp [mapmakerlaw28_TilegridTree.l0] at h⟩
 | k + 1 => by
  obtain ⟨ih0, ih1⟩ := mapmakerlaw28_TilegridTree.mono_l k
  refine ⟨?_, ?_⟩
  ·intro y0 y1 y2 y3 y4 y5 y6 y7 y8 y9
   unfold mapmakerlaw28_TilegridTree.j0
   repeat' first
   | (with_reducible exact ih0 _ _ _ _ _ _ _ _ _ _)
   | (with_reducible exact ih1 _ _ _ _ _ _ _ _ _ _)
   | (with_reducible exact mapmakerlaw28_lives.mono _)
   | (with_reducible exact tilegrid_Children.mono _ _ _ _)
   | (with_reducible exact LeO.refl _)
   | (with_reducible exact LeO.none _)
   | (with_reducible refine LeO.ite ?_ ?_)
   | (with_reducible refine LeO.bind ?_ (fun _ => ?_))
   | exact ih0 _ _ _ _ _ _ _ _ _ _
   | exact ih1 _ _ _ _ _ _ _ _ _ _
   | exact mapmakerlaw28_lives.mono _
   | exact tilegrid_Children.mono _ _ _ _
   | exact LeO.none _
   | refine LeO.ite ?_ ?_
   | refine LeO.bind ?_ (fun _ => ?_)
  ·intro y0 y1 y2 y3 y4 y5 y6 y7 y8 y9
   unfold mapmakerlaw28_TilegridTree.l0
   repeat' first
   | (with_reducible exact ih0 _ _ _ _ _ _ _ _ _ _)
   | (with_reducible exact ih1 _ _ _ _ _ _ _ _ _ _)
   | (with_reducible exact mapmakerlaw28_lives.mono _)
   | (with_reducible exact tilegrid_Children.mono _ _ _ _)
   | (with_reducible exact LeO.refl _)
   | (with_reducible exact LeO.none _)
   | (with_reducible refine LeO.ite ?_ ?_)
   | (with_reducible refine LeO.bind ?_ (fun _ => ?_))
   | exact ih0 _ _ _ _ _ _ _ _ _ _
   | exact ih1 _ _ _ _ _ _ _ _ _ _
   | exact mapmakerlaw28_lives.mono _
   | exact tilegrid_Children.mono _ _ _ _
   | exact LeO.none _
   | refine LeO.ite ?_ ?_
   | refine LeO.bind ?_ (fun _ => ?_)
theorem mapmakerlaw28_TilegridTree.mono : ∀ a0 a1 a2 k, LeO (mapmakerlaw28_TilegridTree.f k a0 a1 a2) (mapmakerlaw28_TilegridTree.f (k + 1) a0 a1 a2) := by
 intro a0 a1 a2 k
 obtain ⟨ih0, ih1⟩ := mapmakerlaw28_TilegridTree.mono_l k
 unfold mapmakerlaw28_TilegridTree.f
 repeat' first
   | (with_reducible exact ih0 _ _ _ _ _ _ _ _ _ _)
   | (with_reducible exact ih1 _ _ _ _ _ _ _ _ _ _)
   | (with_reducible exact mapmakerlaw28_lives.mono _)
   | (with_reducible exact tilegrid_Children.mono _ _ _ _)
   | (with_reducible exact LeO.refl _)
   | (with_reducible exact LeO.none _)
   | (with_reducible refine LeO.ite ?_ ?_)
   | (with_reducible refine LeO.bind ?_ (fun _ => ?_))
   | exact ih0 _ _ _ _ _ _ _ _ _ _
   | exact ih1 _ _ _ _ _ _ _ _ _ _
   | exact mapmakerlaw28_lives.mono _
   | exact tilegrid_Children.mono _ _ _ _
   | exact LeO.none _
   | refine LeO.ite ?_ ?_
   | refine LeO.bind ?_ (fun _ => ?_)
def mapmakerlaw28_TilegridTree.T11 : Bool × List (List Nat × List Nat) := (true, [([], []), ([0], [0]), ([1], [1]), ([2], [2]), ([2], [2]), ([3, 4, 2], [2, 3, 4]), ([2, 5], [2, 5]), ([6, 2], [6]), ([7], [7]), ([8, 7], [7, 8]), ([7, 9], [7, 9]), ([10, 7], [10]), ([11], [11]), ([12, 11], [11, 12]), ([13, 11, 11], [11, 13]), ([14], [14]), ([14], [14]), ([16, 14], [14, 16]), ([15, 17, 14], [14, 15, 17]), ([18, 14], [14, 18]), ([14], [14]), ([14], [14]), ([20, 21, 14], [14, 20, 21]), ([22, 14], [14, 22]), ([19, 23, 14, 14], [14, 19, 23]), ([24, 14], [14, 24]), ([14, 25, 11], [11, 14, 25]), ([11, 26], [11, 26]), ([27, 24], [27]), ([28], [28]), ([28], [28]), ([29, 30, 28, 28], [28, 29, 30]), ([28], [28]), ([31, 32, 28], [28, 31, 32]), ([28, 33], [28, 33])])
def mapmakerlaw28_TilegridTree.B11 : List Nat := [0, 1, 3, 7, 7, 31, 63, 127, 255, 511, 1023, 2047, 4095, 8191, 16383, 32767, 32767, 98303, 262143, 524287, 32767, 32767, 3178495, 7372799, 16777215, 33554431, 67108863, 134217727, 268435455, 536870911, 536870911, 2147483647, 536870911, 8589934591, 17179869183]
theorem mapmakerlaw28_TilegridTree.tab11 : rtab .any (opsOf Try.f7 11) = mapmakerlaw28_TilegridTree.T11 := by kernel_rfl
theorem mapmakerlaw28_TilegridTree.bits11 : waitsOk mapmakerlaw28_TilegridTree.T11.2 mapmakerlaw28_TilegridTree.B11 = true := by kernel_rfl
set_option maxHeartbeats 8000000 in
set_option maxRecDepth 100000 in
theorem mapmakerlaw28_TilegridTree.calls (k : Nat) (a0_0 : Int) (a0_1 : Int) (a0_2 : Int) (r : Bool) (w : World) (h : mapmakerlaw28_TilegridTree.f k a0_0 a0_1 a0_2 = some r) :
  Calls Try.prog 7 #[.agg #[.int .i64 a0_0, .int .i64 a0_1, .int .i64 a0_2]] w fun e w' => e = .returned (.bool r) ∧ Below w.heap.size w w' := by
 have hu30 := Try.underlying30
 have hu23 := Try.underlying23
 have HB := Aside0.mk (Below.refl w.heap.size w)
 have H : ((tilegrid_Children.f k a0_0 a0_1 a0_2).bind fun t280 => ((tilegrid_Box.f a0_0 a0_1 a0_2).bind fun bt283 => (if bt283.2.2.2.2 = 0 then (mapmakerlaw28_TilegridTree.j0 k t280 bt283.2.2.2.2 ((t280.length : Int) == 0) a0_0 a0_1 a0_2 bt283.1 bt283.2.1 bt283.2.2.1 bt283.2.2.2.1) else (mapmakerlaw28_TilegridTree.j0 k t280 bt283.2.2.2.2 true a0_0 a0_1 a0_2 bt283.1 bt283.2.1 bt283.2.2.1 bt283.2.2.2.1)))) = some r := h
 clear h
 replace H := Option.bind_eq_some_iff.mp H
 obtain ⟨t280, A20, H⟩ := H
 replace H : ((tilegrid_Box.f a0_0 a0_1 a0_2).bind fun bt283 => (if bt283.2.2.2.2 = 0 then (mapmakerlaw28_TilegridTree.j0 k t280 bt283.2.2.2.2 ((t280.length : Int) == 0) a0_0 a0_1 a0_2 bt283.1 bt283.2.1 bt283.2.2.1 bt283.2.2.2.1) else (mapmakerlaw28_TilegridTree.j0 k t280 bt283.2.2.2.2 true a0_0 a0_1 a0_2 bt283.1 bt283.2.1 bt283.2.2.1 bt283.2.2.2.1))) = some r := H
 have A2 := Aside0.mk A20
 clear A20
 replace H := Option.bind_eq_some_iff.mp H
 obtain ⟨⟨t283, t284, t285, t286, t287⟩, A30, H⟩ := H
 replace H : (if t287 = 0 then (mapmakerlaw28_TilegridTree.j0 k t280 t287 ((t280.length : Int) == 0) a0_0 a0_1 a0_2 t283 t284 t285 t286) else (mapmakerlaw28_TilegridTree.j0 k t280 t287 true a0_0 a0_1 a0_2 t283 t284 t285 t286)) = some r := H
 have A3 := Aside0.mk A30
 clear A30
 have HC4 := Aside0.mk H
 clear H
 go_enter Try.func7, Try.ntmps7
 go_upto_region 3 with (first | ((with_reducible refine gate_dst (N := 1) rfl ?_); (try (refine gate_guard (by rfl) ?_; dsimp only)); refine box_event ?hg (N := 1) ?hd (cs := #[.int .i64 a0_0, .int .i64 a0_1, .int .i64 a0_2]) (t := 30) ?hr ?_; (case hd => rfl); (case hg => rfl); (case hr => first | (go_simp; done) | (go_simp; rfl)); intro gb279 hg w5 hbox hb; have n0_ := Aside0.mk (below_step (by repeat (first | (with_reducible first | exact HB.out | apply below_alloc | apply pw_below_drewN | apply below_drew1) | exact HB.out)) hb); have n1_ := Aside0.mk (hbox); have n2_ := Aside0.mk ((by rw [hg]; exact (below_size (by repeat (first | (with_reducible first | exact HB.out | apply below_alloc | apply pw_below_drewN | apply below_drew1) | exact HB.out))) : w.heap.size ≤ gb279)); have n3_ := n2_; clear HB; have HB := n0_; have BK279 := n1_; have GW279 := n2_; have GE279 := n3_; clear n0_ n1_ n2_ n3_ hb hbox hg; have hcz6_0 : w5.cell? ⟨gb279, 0, none⟩ = some (.int .i64 a0_0) := (blk_cell BK279.out 0).trans rfl; have hcz6_1 : w5.cell? ⟨gb279, 1, none⟩ = some (.int .i64 a0_1) := (blk_cell BK279.out 1).trans rfl; have hcz6_2 : w5.cell? ⟨gb279, 2, none⟩ = some (.int .i64 a0_2) := (blk_cell BK279.out 2).trans rfl; have hfz6_0 := blk_frozen BK279.out 0; have hfz6_1 := blk_frozen BK279.out 1; have hfz6_2 := blk_frozen BK279.out 2) | ((with_reducible refine gate_callee (f := 26) rfl ?_); refine goesL_ (some 13) rfl rfl Try.func26 (by kernel_rfl) rfl #[.agg #[.int .i64 a0_0, .int .i64 a0_1, .int .i64 a0_2]] rfl (by (try simp only [List.map_toArray, List.map_cons, List.map_nil]); first | done | rfl | (simp only [List.length_drop, List.length_take]; rfl)) ?_; (with_reducible refine (tilegrid_Children.calls k a0_0 a0_1 a0_2 t280 _ A2.out).mono ?_); rintro e w7 ⟨v281, rfl, ho0, hb⟩; refine ⟨_, rfl, ?_⟩; have n0_ := Aside0.mk (Kd.R_lower (Kd.R_newB ho0 (by (with_reducible repeat first | apply blk_drewN | apply blk_drew | apply blk_alloc); exact BK279.out)) (below_size (by repeat (first | (with_reducible first | exact HB.out | apply below_alloc | apply pw_below_drewN | apply below_drew1 | refine below_set ?_ GE279.out) | exact HB.out)))); have n1_ := Aside0.mk (blk_below (by (with_reducible repeat first | apply blk_drewN | apply blk_drew | apply blk_alloc); exact BK279.out) hb); have n2_ := Aside0.mk (below_step (by repeat (first | (with_reducible first | exact HB.out | apply below_alloc | apply pw_below_drewN | apply below_drew1 | refine below_set ?_ GE279.out) | exact HB.out)) hb); clear BK279 HB; have HO282 := n0_; have BK279 := n1_; have HB := n2_; clear n0_ n1_ n2_; (try clear hb); (try clear hb2); (try clear hk); (try clear hi); (try clear ho0); have hcz8_0 : w7.cell? ⟨gb279, 0, none⟩ = some (.int .i64 a0_0) := (blk_cell BK279.out 0).trans rfl; have hcz8_1 : w7.cell? ⟨gb279, 1, none⟩ = some (.int .i64 a0_1) := (blk_cell BK279.out 1).trans rfl; have hcz8_2 : w7.cell? ⟨gb279, 2, none⟩ = some (.int .i64 a0_2) := (blk_cell BK279.out 2).trans rfl; have hfz8_0 := blk_frozen BK279.out 0; have hfz8_1 := blk_frozen BK279.out 1; have hfz8_2 := blk_frozen BK279.out 2) | ((with_reducible refine gate_callee (f := 13) rfl ?_); refine goesL_ (some 16) rfl rfl Try.func13 (by kernel_rfl) rfl #[.agg #[.int .i64 a0_0, .int .i64 a0_1, .int .i64 a0_2]] rfl (by (try simp only [List.map_toArray, List.map_cons, List.map_nil]); first | done | rfl | (simp only [List.length_drop, List.length_take]; rfl)) ?_; (with_reducible refine (tilegrid_Box.calls a0_0 a0_1 a0_2 t283 t284 t285 t286 t287 _ A3.out).mono ?_); rintro e w9 ⟨rfl, hb⟩; refine ⟨_, rfl, ?_⟩; have n0_ := Aside0.mk (Kd.R_below (by (with_reducible repeat (first | apply Kd.R_alloc | apply Kd.R_drewN | apply Kd.R_drew)); exact HO282.out) hb); have n1_ := Aside0.mk (blk_below (by (with_reducible repeat first | apply blk_drewN | apply blk_drew | apply blk_alloc); exact BK279.out) hb); have n2_ := Aside0.mk (below_step (by repeat (first | (with_reducible first | exact HB.out | apply below_alloc | apply pw_below_drewN | apply below_drew1 | refine below_set ?_ GE279.out) | exact HB.out)) hb); clear HO282 BK279 HB; have HO282 := n0_; have BK279 := n1_; have HB := n2_; clear n0_ n1_ n2_; (try clear hb); (try clear hb2); (try clear hk); (try clear hi)) | ((with_reducible refine gate_dst (N := 4) rfl ?_); (try (refine gate_guard (by rfl) ?_; dsimp only)); refine box_event ?hg (N := 4) ?hd (cs := #[.int .i64 0, .int .i64 0, .int .i64 0, .int .i64 0]) (t := 23) ?hr ?_; (case hd => rfl); (case hg => rfl); (case hr => first | (go_simp; done) | (go_simp; rfl)); intro gb288 hg w10 hbox hb; have n0_ := Aside0.mk (Kd.R_below (by (with_reducible repeat (first | apply Kd.R_alloc | apply Kd.R_drewN | apply Kd.R_drew)); exact HO282.out) hb); have n1_ := Aside0.mk (blk_below (by (with_reducible repeat first | apply blk_drewN | apply blk_drew | apply blk_alloc); exact BK279.out) hb); have n2_ := Aside0.mk (below_step (by repeat (first | (with_reducible first | exact HB.out | apply below_alloc | apply pw_below_drewN | apply below_drew1 | refine below_set ?_ GE279.out) | exact HB.out)) hb); have n3_ := Aside0.mk (hbox); have n4_ := Aside0.mk ((by rw [hg]; exact (below_size (by repeat (first | (with_reducible first | exact HB.out | apply below_alloc | apply pw_below_drewN | apply below_drew1 | refine below_set ?_ GE279.out) | exact HB.out))) : w.heap.size ≤ gb288)); have n5_ := n4_; have n6_ := Aside0.mk ((by rw [hg]; exact Nat.ne_of_lt (blk_lt (by (with_reducible repeat first | apply blk_drewN | apply blk_drew | apply blk_alloc); exact BK279.out)) : gb279 ≠ gb288)); have n7_ : Aside0 (gb288 ≠ gb279) := ⟨Ne.symm n6_.out⟩; clear HO282 BK279 HB; have HO282 := n0_; have BK279 := n1_; have HB := n2_; have BK288 := n3_; have GW288 := n4_; have GE288 := n5_; have NB279_288 := n6_; have NB288_279 := n7_; clear n0_ n1_ n2_ n3_ n4_ n5_ n6_ n7_ hb hbox hg; have hnb11 := NB288_279.out; have hnc11 := NB279_288.out; have hcz12_0 : w10.cell? ⟨gb288, 0, none⟩ = some (.int .i64 0) := (blk_cell BK288.out 0).trans rfl; have hcz12_1 : w10.cell? ⟨gb288, 1, none⟩ = some (.int .i64 0) := (blk_cell BK288.out 1).trans rfl; have hcz12_2 : w10.cell? ⟨gb288, 2, none⟩ = some (.int .i64 0) := (blk_cell BK288.out 2).trans rfl; have hcz12_3 : w10.cell? ⟨gb288, 3, none⟩ = some (.int .i64 0) := (blk_cell BK288.out 3).trans rfl; have hfz12_0 := blk_frozen BK288.out 0; have hfz12_1 := blk_frozen BK288.out 1; have hfz12_2 := blk_frozen BK288.out 2; have hfz12_3 := blk_frozen BK288.out 3))
 (try simp only [Act.put, List.setIfInBounds_toArray, List.set_cons_zero, List.set_cons_succ])
 go_cut [25] (fun v25 wc => ∃ (kq : Nat) (x25_3 : Bool), v25 = .bool x25_3 ∧ Aside0 (mapmakerlaw28_TilegridTree.j0 kq t280 t287 x25_3 a0_0 a0_1 a0_2 t283 t284 t285 t286 = some r) ∧ Aside0 (kq ≤ k) ∧ Aside0 (Kd.R k30 30 wc w.heap.size (fun k_ => k_ ≠ gb279) v281 t280) ∧ Aside0 (wc.heap[gb279]? = some (.cells #[.int .i64 a0_0, .int .i64 a0_1, .int .i64 a0_2] 30 (0, 0))) ∧ Aside0 (wc.heap[gb288]? = some (.cells #[.int .i64 t283, .int .i64 t284, .int .i64 t285, .int .i64 t286] 23 (0, 0))) ∧ Aside0 (Below w.heap.size w wc))
 case first =>
  have H := HC4.out
  clear HC4
  by_cases c13 : t287 = 0
  ·rw [if_pos c13] at H
   have c13b0 : (t287 == 0) = true := beq_iff_eq.mpr c13
   have c13b1 : (t287 != 0) = false := bne_eq_false_iff_eq.mpr c13
   clear c13
   (first | rw [c13b0] | (simp only [i64_w, i32_w]; rw [c13b0]) | skip)
   have H' := Aside0.mk H
   clear H
   obtain ⟨Ao14, co14, eo14⟩ := Kd.R_slice HO282.out
   subst eo14
   go_wp2
   go_meet
   case rel => exact ⟨_, (((t280.length : Int) == 0)), (by first | rfl | (simp; done) | (simp [*]; done)), H', ⟨by first | omega | exact Nat.le_refl _⟩, ⟨by (with_reducible repeat (first | apply Kd.R_alloc | apply Kd.R_drewN | apply Kd.R_drew)); exact Kd.R_mono (Kd.R_far (p := ⟨gb288, 3, none⟩) (Kd.R_far (p := ⟨gb288, 2, none⟩) (Kd.R_far (p := ⟨gb288, 1, none⟩) (Kd.R_far (p := ⟨gb288, 0, none⟩) (Kd.R_types HO282.out BK288.out (by decide)) (fun _ hk => hk.2) (.int .i64 t283)) (fun _ hk => hk.2) (.int .i64 t284)) (fun _ hk => hk.2) (.int .i64 t285)) (fun _ hk => hk.2) (.int .i64 t286)) (fun _ hk => hk.1.2)⟩, ⟨by (with_reducible repeat first | apply blk_drewN | apply blk_drew | apply blk_alloc); refine blk_far ?_ NB279_288.out _; (with_reducible repeat first | apply blk_drewN | apply blk_drew | apply blk_alloc); refine blk_far ?_ NB279_288.out _; (with_reducible repeat first | apply blk_drewN | apply blk_drew | apply blk_alloc); refine blk_far ?_ NB279_288.out _; (with_reducible repeat first | apply blk_drewN | apply blk_drew | apply blk_alloc); refine blk_far ?_ NB279_288.out _; (with_reducible repeat first | apply blk_drewN | apply blk_drew | apply blk_alloc); exact BK279.out⟩, ⟨by (with_reducible repeat first | apply blk_drewN | apply blk_drew | apply blk_alloc); refine blk_put (cs := #[.int .i64 t283, .int .i64 t284, .int .i64 t285, .int .i64 0]) ?_ 3 _ rfl; (with_reducible repeat first | apply blk_drewN | apply blk_drew | apply blk_alloc); refine blk_put (cs := #[.int .i64 t283, .int .i64 t284, .int .i64 0, .int .i64 0]) ?_ 2 _ rfl; (with_reducible repeat first | apply blk_drewN | apply blk_drew | apply blk_alloc); refine blk_put (cs := #[.int .i64 t283, .int .i64 0, .int .i64 0, .int .i64 0]) ?_ 1 _ rfl; (with_reducible repeat first | apply blk_drewN | apply blk_drew | apply blk_alloc); refine blk_put (cs := #[.int .i64 0, .int .i64 0, .int .i64 0, .int .i64 0]) ?_ 0 _ rfl; (with_reducible repeat first | apply blk_drewN | apply blk_drew | apply blk_alloc); exact BK288.out⟩, ⟨by repeat (first | (with_reducible first | exact HB.out | apply below_alloc | apply pw_below_drewN | apply below_drew1 | refine below_set ?_ GE279.out | refine below_set ?_ GE288.out) | exact HB.out)⟩⟩
  ·rw [if_neg c13] at H
   have c13b0 : (t287 == 0) = false := beq_eq_false_iff_ne.mpr c13
   have c13b1 : (t287 != 0) = true := bne_iff_ne.mpr c13
   (first | rw [c13b0] | (simp only [i64_w, i32_w]; rw [c13b0]) | skip)
   have H' := Aside0.mk H
   clear H
   go_wp2
   go_meet
   case rel => exact ⟨_, (true), (by first | rfl | (simp; done) | (simp [*]; done)), H', ⟨by first | omega | exact Nat.le_refl _⟩, ⟨by (with_reducible repeat (first | apply Kd.R_alloc | apply Kd.R_drewN | apply Kd.R_drew)); exact Kd.R_mono (Kd.R_far (p := ⟨gb288, 3, none⟩) (Kd.R_far (p := ⟨gb288, 2, none⟩) (Kd.R_far (p := ⟨gb288, 1, none⟩) (Kd.R_far (p := ⟨gb288, 0, none⟩) (Kd.R_types HO282.out BK288.out (by decide)) (fun _ hk => hk.2) (.int .i64 t283)) (fun _ hk => hk.2) (.int .i64 t284)) (fun _ hk => hk.2) (.int .i64 t285)) (fun _ hk => hk.2) (.int .i64 t286)) (fun _ hk => hk.1.2)⟩, ⟨by (with_reducible repeat first | apply blk_drewN | apply blk_drew | apply blk_alloc); refine blk_far ?_ NB279_288.out _; (with_reducible repeat first | apply blk_drewN | apply blk_drew | apply blk_alloc); refine blk_far ?_ NB279_288.out _; (with_reducible repeat first | apply blk_drewN | apply blk_drew | apply blk_alloc); refine blk_far ?_ NB279_288.out _; (with_reducible repeat first | apply blk_drewN | apply blk_drew | apply blk_alloc); refine blk_far ?_ NB279_288.out _; (with_reducible repeat first | apply blk_drewN | apply blk_drew | apply blk_alloc); exact BK279.out⟩, ⟨by (with_reducible repeat first | apply blk_drewN | apply blk_drew | apply blk_alloc); refine blk_put (cs := #[.int .i64 t283, .int .i64 t284, .int .i64 t285, .int .i64 0]) ?_ 3 _ rfl; (with_reducible repeat first | apply blk_drewN | apply blk_drew | apply blk_alloc); refine blk_put (cs := #[.int .i64 t283, .int .i64 t284, .int .i64 0, .int .i64 0]) ?_ 2 _ rfl; (with_reducible repeat first | apply blk_drewN | apply blk_drew | apply blk_alloc); refine blk_put (cs := #[.int .i64 t283, .int .i64 0, .int .i64 0, .int .i64 0]) ?_ 1 _ rfl; (with_reducible repeat first | apply blk_drewN | apply blk_drew | apply blk_alloc); refine blk_put (cs := #[.int .i64 0, .int .i64 0, .int .i64 0, .int .i64 0]) ?_ 0 _ rfl; (with_reducible repeat first | apply blk_drewN | apply blk_drew | apply blk_alloc); exact BK288.out⟩, ⟨by repeat (first | (with_reducible first | exact HB.out | apply below_alloc | apply pw_below_drewN | apply below_drew1 | refine below_set ?_ GE279.out | refine below_set ?_ GE288.out) | exact HB.out)⟩⟩
 case rest =>
  clear HC4
  try clear c1
  try clear c2
  try clear p2
  try clear c7
  try clear c11
  try clear c13
  try clear c13b0
  try clear c13b1
  try clear hcz12_0
  try clear hcz12_1
  try clear hcz12_2
  try clear hcz12_3
  try clear hcz6_0
  try clear hcz6_1
  try clear hcz6_2
  try clear hcz8_0
  try clear hcz8_1
  try clear hcz8_2
  try clear hfz12_0
  try clear hfz12_1
  try clear hfz12_2
  try clear hfz12_3
  try clear hfz6_0
  try clear hfz6_1
  try clear hfz6_2
  try clear hfz8_0
  try clear hfz8_1
  try clear hfz8_2
  obtain ⟨kq, x25_3, rfl, HA, HJ3, HO_3, BK279, BK288, HB⟩ := hcut
  cases kq with
  | zero => exact absurd HA.out (by simp [mapmakerlaw28_TilegridTree.j0])
  | succ kj3 =>
   have H := HA.out
   clear HA
   simp only [mapmakerlaw28_TilegridTree.j0] at H
   by_cases c15 : x25_3 = true
   ·subst c15
    have H1 : (if (t280.length : Int) = 0 then (if t287 = 0 then (if a0_0 = 7 then ((mapmakerlaw28_lives.f kj3).bind fun t289 => (some t289)) else (none)) else ((mapmakerlaw28_lives.f kj3).bind fun t290 => (some t290))) else (none)) = some r := by rw [if_pos rfl] at H; exact H
    clear H
    have H := H1
    clear H1
    by_cases c16 : (t280.length : Int) = 0
    ·rw [if_pos c16] at H
     have c16b0 : ((t280.length : Int) == 0) = true := beq_iff_eq.mpr c16
     have c16b1 : ((t280.length : Int) != 0) = false := bne_eq_false_iff_eq.mpr c16
     clear c16
     by_cases c17 : t287 = 0
     ·rw [if_pos c17] at H
      have c17b0 : (t287 == 0) = true := beq_iff_eq.mpr c17
      have c17b1 : (t287 != 0) = false := bne_eq_false_iff_eq.mpr c17
      clear c17
      by_cases c18 : a0_0 = 7
      ·rw [if_pos c18] at H
       have c18b0 : (a0_0 == 7) = true := beq_iff_eq.mpr c18
       have c18b1 : (a0_0 != 7) = false := bne_eq_false_iff_eq.mpr c18
       clear c18
       replace H := Option.bind_eq_some_iff.mp H
       obtain ⟨t289, A190, H⟩ := H
       replace H : (some t289) = some r := H
       have A19 := Aside0.mk A190
       clear A190
       obtain rfl := Option.some.inj H
       obtain ⟨Ao20, co20, eo20⟩ := Kd.R_slice HO_3.out
       subst eo20
       have hnb21 := NB279_288.out
       have hnc21 := NB288_279.out
       have hcz22_0 : wc.cell? ⟨gb279, 0, none⟩ = some (.int .i64 a0_0) := (blk_cell BK279.out 0).trans rfl
       have hcz22_1 : wc.cell? ⟨gb279, 1, none⟩ = some (.int .i64 a0_1) := (blk_cell BK279.out 1).trans rfl
       have hcz22_2 : wc.cell? ⟨gb279, 2, none⟩ = some (.int .i64 a0_2) := (blk_cell BK279.out 2).trans rfl
       have hfz22_0 := blk_frozen BK279.out 0
       have hfz22_1 := blk_frozen BK279.out 1
       have hfz22_2 := blk_frozen BK279.out 2
       go_wp2_with (first | (go_at_call 12; (with_reducible refine (mapmakerlaw28_lives.calls kj3  t289 _ A19.out).mono ?_); rintro e w23 ⟨rfl, hb⟩; have n0_ := Aside0.mk (Kd.R_below (by (with_reducible repeat (first | apply Kd.R_alloc | apply Kd.R_drewN | apply Kd.R_drew)); exact HO_3.out) hb); have n1_ := Aside0.mk (blk_below (by (with_reducible repeat first | apply blk_drewN | apply blk_drew | apply blk_alloc); exact BK279.out) hb); have n2_ := Aside0.mk (blk_below (by (with_reducible repeat first | apply blk_drewN | apply blk_drew | apply blk_alloc); exact BK288.out) hb); have n3_ := Aside0.mk (below_step (by repeat (first | (with_reducible first | exact HB.out | apply below_alloc | apply pw_below_drewN | apply below_drew1 | refine below_set ?_ GE279.out | refine below_set ?_ GE288.out) | exact HB.out)) hb); clear HO_3 BK279 BK288 HB; have HO_3 := n0_; have BK279 := n1_; have BK288 := n2_; have HB := n3_; clear n0_ n1_ n2_ n3_; (try clear hb); (try clear hb2); (try clear hk); (try clear hi)))
       go_ret
       exact ⟨by first | rfl | (simp [errW_none, errW_some] <;> rfl) | (simp [*, errW_none, errW_some] <;> rfl), by repeat (first | (with_reducible first | exact HB.out | apply below_alloc | apply pw_below_drewN | apply below_drew1 | refine below_set ?_ GE279.out | refine below_set ?_ GE288.out) | exact HB.out)⟩
      ·rw [if_neg c18] at H
       exact absurd H (by simp)
     ·rw [if_neg c17] at H
      have c17b0 : (t287 == 0) = false := beq_eq_false_iff_ne.mpr c17
      have c17b1 : (t287 != 0) = true := bne_iff_ne.mpr c17
      replace H := Option.bind_eq_some_iff.mp H
      obtain ⟨t290, A240, H⟩ := H
      replace H : (some t290) = some r := H
      have A24 := Aside0.mk A240
      clear A240
      obtain rfl := Option.some.inj H
      obtain ⟨Ao25, co25, eo25⟩ := Kd.R_slice HO_3.out
      subst eo25
      go_wp2_with (first | (go_at_call 12; (with_reducible refine (mapmakerlaw28_lives.calls kj3  t290 _ A24.out).mono ?_); rintro e w26 ⟨rfl, hb⟩; have n0_ := Aside0.mk (Kd.R_below (by (with_reducible repeat (first | apply Kd.R_alloc | apply Kd.R_drewN | apply Kd.R_drew)); exact HO_3.out) hb); have n1_ := Aside0.mk (blk_below (by (with_reducible repeat first | apply blk_drewN | apply blk_drew | apply blk_alloc); exact BK279.out) hb); have n2_ := Aside0.mk (blk_below (by (with_reducible repeat first | apply blk_drewN | apply blk_drew | apply blk_alloc); exact BK288.out) hb); have n3_ := Aside0.mk (below_step (by repeat (first | (with_reducible first | exact HB.out | apply below_alloc | apply pw_below_drewN | apply below_drew1 | refine below_set ?_ GE279.out | refine below_set ?_ GE288.out) | exact HB.out)) hb); clear HO_3 BK279 BK288 HB; have HO_3 := n0_; have BK279 := n1_; have BK288 := n2_; have HB := n3_; clear n0_ n1_ n2_ n3_; (try clear hb); (try clear hb2); (try clear hk); (try clear hi)))
      go_ret
      exact ⟨by first | rfl | (simp [errW_none, errW_some] <;> rfl) | (simp [*, errW_none, errW_some] <;> rfl), by repeat (first | (with_reducible first | exact HB.out | apply below_alloc | apply pw_below_drewN | apply below_drew1 | refine below_set ?_ GE279.out | refine below_set ?_ GE288.out) | exact HB.out)⟩
    ·rw [if_neg c16] at H
     exact absurd H (by simp)
   ·replace c15 := Bool.eq_false_iff.mpr c15
    subst c15
    have H1 : (mapmakerlaw28_TilegridTree.l0 kj3 t280 0 0 a0_0 a0_1 a0_2 t283 t284 t285 t286) = some r := by rw [if_neg (show ¬ (false = true) by decide)] at H; exact H
    clear H
    have H := H1
    clear H1
    have H' := Aside0.mk H
    clear H
    go_wp2
    go_loopg [6, 7] kj3 (fun kq v6 v7 w' => ∃ (x6_2 : Int) (x7_2 : Int), v6 = .int .i64 x6_2 ∧ v7 = .int .i64 x7_2 ∧ Aside0 (mapmakerlaw28_TilegridTree.l0 kq t280 x6_2 x7_2 a0_0 a0_1 a0_2 t283 t284 t285 t286 = some r) ∧ Aside0 (kq ≤ kj3) ∧ Aside0 (Kd.R k30 30 w' w.heap.size (fun k_ => k_ ≠ gb279) v281 t280) ∧ Aside0 (w'.heap[gb279]? = some (.cells #[.int .i64 a0_0, .int .i64 a0_1, .int .i64 a0_2] 30 (0, 0))) ∧ Aside0 (w'.heap[gb288]? = some (.cells #[.int .i64 t283, .int .i64 t284, .int .i64 t285, .int .i64 t286] 23 (0, 0))) ∧ Aside0 (Below w.heap.size w w'))
    case atStart => exact ⟨(0), (0), (by first | rfl | (simp; done) | (simp [*]; done)), (by first | rfl | (simp; done) | (simp [*]; done)), H', ⟨Nat.le_refl _⟩, ⟨by (with_reducible repeat (first | apply Kd.R_alloc | apply Kd.R_drewN | apply Kd.R_drew)); exact HO_3.out⟩, ⟨by (with_reducible repeat first | apply blk_drewN | apply blk_drew | apply blk_alloc); exact BK279.out⟩, ⟨by (with_reducible repeat first | apply blk_drewN | apply blk_drew | apply blk_alloc); exact BK288.out⟩, ⟨by repeat (first | (with_reducible first | exact HB.out | apply below_alloc | apply pw_below_drewN | apply below_drew1 | refine below_set ?_ GE279.out | refine below_set ?_ GE288.out) | exact HB.out)⟩⟩
    case round =>
     clear H'
     try clear c1
     try clear c2
     try clear p2
     try clear c7
     try clear c11
     try clear c13
     try clear c13b0
     try clear c13b1
     try clear c15
     try clear c16
     try clear c16b0
     try clear c16b1
     try clear c17
     try clear c17b0
     try clear c17b1
     try clear c18
     try clear c18b0
     try clear c18b1
     try clear c21
     try clear c26
     try clear hcz12_0
     try clear hcz12_1
     try clear hcz12_2
     try clear hcz12_3
     try clear hcz22_0
     try clear hcz22_1
     try clear hcz22_2
     try clear hcz6_0
     try clear hcz6_1
     try clear hcz6_2
     try clear hcz8_0
     try clear hcz8_1
     try clear hcz8_2
     try clear hfz12_0
     try clear hfz12_1
     try clear hfz12_2
     try clear hfz12_3
     try clear hfz22_0
     try clear hfz22_1
     try clear hfz22_2
     try clear hfz6_0
     try clear hfz6_1
     try clear hfz6_2
     try clear hfz8_0
     try clear hfz8_1
     try clear hfz8_2
     try clear p2
     obtain ⟨x6_2, x7_2, rfl, rfl, HA, HK2, HO_3, BK279, BK288, HB⟩ := hrel
     cases gk with
     | zero => exact absurd HA.out (by simp [mapmakerlaw28_TilegridTree.l0])
     | succ k2 =>
      have H := HA.out
      clear HA
      simp only [mapmakerlaw28_TilegridTree.l0] at H
      by_cases c27 : x7_2 < (t280.length : Int)
      ·rw [if_pos c27] at H
       have c27b0 : decide (x7_2 < (t280.length : Int)) = true := decide_eq_true c27
       clear c27
       by_cases c28 : 0 ≤ x7_2
       ·rw [if_pos c28] at H
        have c28b0 : decide (0 ≤ x7_2) = true := decide_eq_true c28
        clear c28
        replace H := Option.bind_eq_some_iff.mp H
        obtain ⟨⟨t293, t294, t295, t296⟩, A290, H⟩ := H
        replace H : ((tilegrid_Box.f ((rd_T30 t280 x7_2).f0) ((rd_T30 t280 x7_2).f1) ((rd_T30 t280 x7_2).f2)).bind fun bt299 => (if t296 = true then (if (!(t293 == a0_0) || (!(t294 == a0_1) || (!(t295 == a0_2)))) = true then (none) else (if bt299.2.2.2.2 = 0 then (if x7_2 > 0 then (if 0 ≤ (wrap64 (x7_2 - 1)) then (if (wrap64 (x7_2 - 1)) < (t280.length : Int) then ((tilegrid_Less.f ((rd_T30 t280 (wrap64 (x7_2 - 1))).f0) ((rd_T30 t280 (wrap64 (x7_2 - 1))).f1) ((rd_T30 t280 (wrap64 (x7_2 - 1))).f2) ((rd_T30 t280 x7_2).f0) ((rd_T30 t280 x7_2).f1) ((rd_T30 t280 x7_2).f2)).bind fun t307 => (if t307 = true then ((mapmakerref08_Join.f t283 t284 t285 t286 bt299.1 bt299.2.1 bt299.2.2.1 bt299.2.2.2.1).bind fun bt308 => (if (!(bt308.1 == t283) || (!(bt308.2.1 == t284) || (!(bt308.2.2.1 == t285) || (!(bt308.2.2.2 == t286))))) = true then (none) else (mapmakerlaw28_TilegridTree.l0 k2 t280 (wrap64 (x6_2 + (wrap64 ((wrap64 (bt299.2.2.1 - bt299.1)) * (wrap64 (bt299.2.2.2.1 - bt299.2.1)))))) (wrap64 (x7_2 + 1)) a0_0 a0_1 a0_2 t283 t284 t285 t286))) else (none))) else (none)) else (none)) else ((mapmakerref08_Join.f t283 t284 t285 t286 bt299.1 bt299.2.1 bt299.2.2.1 bt299.2.2.2.1).bind fun bt312 => (if (!(bt312.1 == t283) || (!(bt312.2.1 == t284) || (!(bt312.2.2.1 == t285) || (!(bt312.2.2.2 == t286))))) = true then (none) else (mapmakerlaw28_TilegridTree.l0 k2 t280 (wrap64 (x6_2 + (wrap64 ((wrap64 (bt299.2.2.1 - bt299.1)) * (wrap64 (bt299.2.2.2.1 - bt299.2.1)))))) (wrap64 (x7_2 + 1)) a0_0 a0_1 a0_2 t283 t284 t285 t286)))) else (none))) else (none))) = some r := H
        have A29 := Aside0.mk A290
        clear A290
        replace H := Option.bind_eq_some_iff.mp H
        obtain ⟨⟨t299, t300, t301, t302, t303⟩, A300, H⟩ := H
        replace H : (if t296 = true then (if (!(t293 == a0_0) || (!(t294 == a0_1) || (!(t295 == a0_2)))) = true then (none) else (if t303 = 0 then (if x7_2 > 0 then (if 0 ≤ (wrap64 (x7_2 - 1)) then (if (wrap64 (x7_2 - 1)) < (t280.length : Int) then ((tilegrid_Less.f ((rd_T30 t280 (wrap64 (x7_2 - 1))).f0) ((rd_T30 t280 (wrap64 (x7_2 - 1))).f1) ((rd_T30 t280 (wrap64 (x7_2 - 1))).f2) ((rd_T30 t280 x7_2).f0) ((rd_T30 t280 x7_2).f1) ((rd_T30 t280 x7_2).f2)).bind fun t307 => (if t307 = true then ((mapmakerref08_Join.f t283 t284 t285 t286 t299 t300 t301 t302).bind fun bt308 => (if (!(bt308.1 == t283) || (!(bt308.2.1 == t284) || (!(bt308.2.2.1 == t285) || (!(bt308.2.2.2 == t286))))) = true then (none) else (mapmakerlaw28_TilegridTree.l0 k2 t280 (wrap64 (x6_2 + (wrap64 ((wrap64 (t301 - t299)) * (wrap64 (t302 - t300)))))) (wrap64 (x7_2 + 1)) a0_0 a0_1 a0_2 t283 t284 t285 t286))) else (none))) else (none)) else (none)) else ((mapmakerref08_Join.f t283 t284 t285 t286 t299 t300 t301 t302).bind fun bt312 => (if (!(bt312.1 == t283) || (!(bt312.2.1 == t284) || (!(bt312.2.2.1 == t285) || (!(bt312.2.2.2 == t286))))) = true then (none) else (mapmakerlaw28_TilegridTree.l0 k2 t280 (wrap64 (x6_2 + (wrap64 ((wrap64 (t301 - t299)) * (wrap64 (t302 - t300)))))) (wrap64 (x7_2 + 1)) a0_0 a0_1 a0_2 t283 t284 t285 t286)))) else (none))) else (none)) = some r := H
        have A30 := Aside0.mk A300
        clear A300
        by_cases c31 : t296 = true
        ·subst c31
         have H1 : (if (!(t293 == a0_0) || (!(t294 == a0_1) || (!(t295 == a0_2)))) = true then (none) else (if t303 = 0 then (if x7_2 > 0 then (if 0 ≤ (wrap64 (x7_2 - 1)) then (if (wrap64 (x7_2 - 1)) < (t280.length : Int) then ((tilegrid_Less.f ((rd_T30 t280 (wrap64 (x7_2 - 1))).f0) ((rd_T30 t280 (wrap64 (x7_2 - 1))).f1) ((rd_T30 t280 (wrap64 (x7_2 - 1))).f2) ((rd_T30 t280 x7_2).f0) ((rd_T30 t280 x7_2).f1) ((rd_T30 t280 x7_2).f2)).bind fun t307 => (if t307 = true then ((mapmakerref08_Join.f t283 t284 t285 t286 t299 t300 t301 t302).bind fun bt308 => (if (!(bt308.1 == t283) || (!(bt308.2.1 == t284) || (!(bt308.2.2.1 == t285) || (!(bt308.2.2.2 == t286))))) = true then (none) else (mapmakerlaw28_TilegridTree.l0 k2 t280 (wrap64 (x6_2 + (wrap64 ((wrap64 (t301 - t299)) * (wrap64 (t302 - t300)))))) (wrap64 (x7_2 + 1)) a0_0 a0_1 a0_2 t283 t284 t285 t286))) else (none))) else (none)) else (none)) else ((mapmakerref08_Join.f t283 t284 t285 t286 t299 t300 t301 t302).bind fun bt312 => (if (!(bt312.1 == t283) || (!(bt312.2.1 == t284) || (!(bt312.2.2.1 == t285) || (!(bt312.2.2.2 == t286))))) = true then (none) else (mapmakerlaw28_TilegridTree.l0 k2 t280 (wrap64 (x6_2 + (wrap64 ((wrap64 (t301 - t299)) * (wrap64 (t302 - t300)))))) (wrap64 (x7_2 + 1)) a0_0 a0_1 a0_2 t283 t284 t285 t286)))) else (none))) = some r := by rw [if_pos rfl] at H; exact H
         clear H
         have H := H1
         clear H1
         by_cases c32 : (!(t293 == a0_0) || (!(t294 == a0_1) || (!(t295 == a0_2)))) = true
         ·rw [if_pos c32] at H
          exact absurd H (by simp)
         ·rw [if_neg c32] at H
          have c32b0 : (!(t293 == a0_0) || (!(t294 == a0_1) || (!(t295 == a0_2)))) = false := by simpa using c32
          clear c32
          by_cases c33 : t303 = 0
          ·rw [if_pos c33] at H
           have c33b0 : (t303 == 0) = true := beq_iff_eq.mpr c33
           have c33b1 : (t303 != 0) = false := bne_eq_false_iff_eq.mpr c33
           clear c33
           by_cases c34 : x7_2 > 0
           ·rw [if_pos c34] at H
            have c34b0 : decide (0 < x7_2) = true := decide_eq_true c34
            clear c34
            obtain ⟨ji35, hji35⟩ : ∃ j_ : Int, (wrap64 (x7_2 - 1)) = j_ := ⟨_, rfl⟩
            replace H : (if 0 ≤ (ji35) then (if (ji35) < (t280.length : Int) then ((tilegrid_Less.f ((rd_T30 t280 (ji35)).f0) ((rd_T30 t280 (ji35)).f1) ((rd_T30 t280 (ji35)).f2) ((rd_T30 t280 x7_2).f0) ((rd_T30 t280 x7_2).f1) ((rd_T30 t280 x7_2).f2)).bind fun t307 => (if t307 = true then ((mapmakerref08_Join.f t283 t284 t285 t286 t299 t300 t301 t302).bind fun bt308 => (if (!(bt308.1 == t283) || (!(bt308.2.1 == t284) || (!(bt308.2.2.1 == t285) || (!(bt308.2.2.2 == t286))))) = true then (none) else (mapmakerlaw28_TilegridTree.l0 k2 t280 (wrap64 (x6_2 + (wrap64 ((wrap64 (t301 - t299)) * (wrap64 (t302 - t300)))))) (wrap64 (x7_2 + 1)) a0_0 a0_1 a0_2 t283 t284 t285 t286))) else (none))) else (none)) else (none)) = some r := by first | (rw [hji35] at H; exact H) | (simp only [hji35] at H ⊢; exact H)
            (try rw [hji35] at A29)
            (try rw [hji35] at A30)
            have hji35w : (IntKind.i64.wrap (x7_2 - 1)) = ji35 := (i64_w _).trans hji35
            by_cases c36 : 0 ≤ (ji35)
            ·rw [if_pos c36] at H
             have c36b0 : decide (0 ≤ (ji35)) = true := decide_eq_true c36
             clear c36
             by_cases c37 : (ji35) < (t280.length : Int)
             ·rw [if_pos c37] at H
              have c37b0 : decide ((ji35) < (t280.length : Int)) = true := decide_eq_true c37
              clear c37
              replace H := Option.bind_eq_some_iff.mp H
              obtain ⟨t307, A380, H⟩ := H
              replace H : (if t307 = true then ((mapmakerref08_Join.f t283 t284 t285 t286 t299 t300 t301 t302).bind fun bt308 => (if (!(bt308.1 == t283) || (!(bt308.2.1 == t284) || (!(bt308.2.2.1 == t285) || (!(bt308.2.2.2 == t286))))) = true then (none) else (mapmakerlaw28_TilegridTree.l0 k2 t280 (wrap64 (x6_2 + (wrap64 ((wrap64 (t301 - t299)) * (wrap64 (t302 - t300)))))) (wrap64 (x7_2 + 1)) a0_0 a0_1 a0_2 t283 t284 t285 t286))) else (none)) = some r := H
              have A38 := Aside0.mk A380
              clear A380
              by_cases c39 : t307 = true
              ·subst c39
               have H1 : ((mapmakerref08_Join.f t283 t284 t285 t286 t299 t300 t301 t302).bind fun bt308 => (if (!(bt308.1 == t283) || (!(bt308.2.1 == t284) || (!(bt308.2.2.1 == t285) || (!(bt308.2.2.2 == t286))))) = true then (none) else (mapmakerlaw28_TilegridTree.l0 k2 t280 (wrap64 (x6_2 + (wrap64 ((wrap64 (t301 - t299)) * (wrap64 (t302 - t300)))))) (wrap64 (x7_2 + 1)) a0_0 a0_1 a0_2 t283 t284 t285 t286))) = some r := by rw [if_pos rfl] at H; exact H
               clear H
               have H := H1
               clear H1
               replace H := Option.bind_eq_some_iff.mp H
               obtain ⟨⟨t308, t309, t310, t311⟩, A400, H⟩ := H
               replace H : (if (!(t308 == t283) || (!(t309 == t284) || (!(t310 == t285) || (!(t311 == t286))))) = true then (none) else (mapmakerlaw28_TilegridTree.l0 k2 t280 (wrap64 (x6_2 + (wrap64 ((wrap64 (t301 - t299)) * (wrap64 (t302 - t300)))))) (wrap64 (x7_2 + 1)) a0_0 a0_1 a0_2 t283 t284 t285 t286)) = some r := H
               have A40 := Aside0.mk A400
               clear A400
               by_cases c41 : (!(t308 == t283) || (!(t309 == t284) || (!(t310 == t285) || (!(t311 == t286))))) = true
               ·rw [if_pos c41] at H
                exact absurd H (by simp)
               ·rw [if_neg c41] at H
                have c41b0 : (!(t308 == t283) || (!(t309 == t284) || (!(t310 == t285) || (!(t311 == t286))))) = false := by simpa using c41
                clear c41
                have H' := Aside0.mk H
                clear H
                obtain ⟨Ao42, co42, eo42⟩ := Kd.R_slice HO_3.out
                subst eo42
                have p292 : 0 ≤ (x7_2 : Int) := of_decide_eq_true (by first | (with_reducible assumption) | assumption)
                have q292 : x7_2 < (t280.length : Int) := of_decide_eq_true (by first | (with_reducible assumption) | assumption)
                obtain ⟨ad292, e292, hx292_0, hx292_1, hx292_2⟩ := at_T30 (Kd.R_reads' HO_3.out).2.2 x7_2 p292 q292
                cases e292
                replace p292 := eq_true p292
                replace q292 := eq_true q292
                try go_wp2_with (first | ((with_reducible refine gate_callee (f := 25) rfl ?_); refine goesL_ (some 52) rfl rfl Try.func25 (by kernel_rfl) rfl #[.agg #[.int .i64 ((rd_T30 t280 x7_2).f0), .int .i64 ((rd_T30 t280 x7_2).f1), .int .i64 ((rd_T30 t280 x7_2).f2)]] rfl (by (try simp only [List.map_toArray, List.map_cons, List.map_nil]); first | done | rfl | (simp only [List.length_drop, List.length_take]; rfl)) ?_; (with_reducible refine (tilegrid_Parent.calls ((rd_T30 t280 x7_2).f0) ((rd_T30 t280 x7_2).f1) ((rd_T30 t280 x7_2).f2) t293 t294 t295 true _ A29.out).mono ?_); rintro e w43 ⟨rfl, hb⟩; refine ⟨_, rfl, ?_⟩; have n0_ := Aside0.mk (Kd.R_below (by (with_reducible repeat (first | apply Kd.R_alloc | apply Kd.R_drewN | apply Kd.R_drew)); exact HO_3.out) hb); have n1_ := Aside0.mk (blk_below (by (with_reducible repeat first | apply blk_drewN | apply blk_drew | apply blk_alloc); exact BK279.out) hb); have n2_ := Aside0.mk (blk_below (by (with_reducible repeat first | apply blk_drewN | apply blk_drew | apply blk_alloc); exact BK288.out) hb); have n3_ := Aside0.mk (below_step (by repeat (first | (with_reducible first | exact HB.out | apply below_alloc | apply pw_below_drewN | apply below_drew1 | refine below_set ?_ GE279.out | refine below_set ?_ GE288.out) | exact HB.out)) hb); clear HO_3 BK279 BK288 HB; have HO_3 := n0_; have BK279 := n1_; have BK288 := n2_; have HB := n3_; clear n0_ n1_ n2_ n3_; (try clear hb); (try clear hb2); (try clear hk); (try clear hi)) | ((with_reducible refine gate_dst (N := 8) rfl ?_); (try (refine gate_guard (by rfl) ?_; dsimp only)); refine box_event ?hg (N := 8) ?hd (cs := #[.int .i64 0, .int .i64 0, .int .i64 0]) (t := 30) ?hr ?_; (case hd => rfl); (case hg => rfl); (case hr => first | (go_simp; done) | (go_simp; rfl)); intro gb297 hg w44 hbox hb; have n0_ := Aside0.mk (Kd.R_below (Kd.R_elderB (by (with_reducible repeat (first | apply Kd.R_alloc | apply Kd.R_drewN | apply Kd.R_drew)); exact HO_3.out) gb297 (Nat.le_of_eq hg.symm)) hb); have n1_ := Aside0.mk (blk_below (by (with_reducible repeat first | apply blk_drewN | apply blk_drew | apply blk_alloc); exact BK279.out) hb); have n2_ := Aside0.mk (blk_below (by (with_reducible repeat first | apply blk_drewN | apply blk_drew | apply blk_alloc); exact BK288.out) hb); have n3_ := Aside0.mk (below_step (by repeat (first | (with_reducible first | exact HB.out | apply below_alloc | apply pw_below_drewN | apply below_drew1 | refine below_set ?_ GE279.out | refine below_set ?_ GE288.out) | exact HB.out)) hb); have n4_ := Aside0.mk (hbox); have n5_ := Aside0.mk ((by rw [hg]; exact (below_size (by repeat (first | (with_reducible first | exact HB.out | apply below_alloc | apply pw_below_drewN | apply below_drew1 | refine below_set ?_ GE279.out | refine below_set ?_ GE288.out) | exact HB.out))) : w.heap.size ≤ gb297)); have n6_ := n5_; have n7_ := Aside0.mk ((by rw [hg]; exact Nat.ne_of_lt (blk_lt (by (with_reducible repeat first | apply blk_drewN | apply blk_drew | apply blk_alloc); exact BK279.out)) : gb279 ≠ gb297)); have n8_ : Aside0 (gb297 ≠ gb279) := ⟨Ne.symm n7_.out⟩; have n9_ := Aside0.mk ((by rw [hg]; exact Nat.ne_of_lt (blk_lt (by (with_reducible repeat first | apply blk_drewN | apply blk_drew | apply blk_alloc); exact BK288.out)) : gb288 ≠ gb297)); have n10_ : Aside0 (gb297 ≠ gb288) := ⟨Ne.symm n9_.out⟩; clear HO_3 BK279 BK288 HB; have HO_3 := n0_; have BK279 := n1_; have BK288 := n2_; have HB := n3_; have BK297 := n4_; have GW297 := n5_; have GE297 := n6_; have NB279_297 := n7_; have NB297_279 := n8_; have NB288_297 := n9_; have NB297_288 := n10_; clear n0_ n1_ n2_ n3_ n4_ n5_ n6_ n7_ n8_ n9_ n10_ hb hbox hg; have hnb45 := NB297_279.out; have hnc45 := NB279_297.out; have hnb46 := NB297_288.out; have hnc46 := NB288_297.out; have hcz47_0 : w44.cell? ⟨gb297, 0, none⟩ = some (.int .i64 0) := (blk_cell BK297.out 0).trans rfl; have hcz47_1 : w44.cell? ⟨gb297, 1, none⟩ = some (.int .i64 0) := (blk_cell BK297.out 1).trans rfl; have hcz47_2 : w44.cell? ⟨gb297, 2, none⟩ = some (.int .i64 0) := (blk_cell BK297.out 2).trans rfl; have hfz47_0 := blk_frozen BK297.out 0; have hfz47_1 := blk_frozen BK297.out 1; have hfz47_2 := blk_frozen BK297.out 2; have p298 : 0 ≤ (x7_2 : Int) := of_decide_eq_true (by first | (with_reducible assumption) | assumption); have q298 : x7_2 < (t280.length : Int) := of_decide_eq_true (by first | (with_reducible assumption) | assumption); obtain ⟨ad298, e298, hx298_0, hx298_1, hx298_2⟩ := at_T30 (Kd.R_reads' HO_3.out).2.2 x7_2 p298 q298; obtain rfl : ad292 = ad298 := (by injection e298); have hn298_0 : ad292.block ≠ gb297 := (by have h_ := HO_3.out.1 _ rfl; first | exact h_.2 | exact h_.2.2 | exact h_.1.2); have hn298_1 : ad292.block ≠ gb297 := (by have h_ := HO_3.out.1 _ rfl; first | exact h_.2 | exact h_.2.2 | exact h_.1.2); have hn298_2 : ad292.block ≠ gb297 := (by have h_ := HO_3.out.1 _ rfl; first | exact h_.2 | exact h_.2.2 | exact h_.1.2); replace hx298_0 := (cell_far (p := ⟨gb297, 0, none⟩) (by first | (rw [add_block]; exact hn298_0) | (show (Addr.add _ _).block ≠ _; rw [add_block]; exact hn298_0) | exact hn298_0) (.int .i64 t293)).trans hx298_0; replace hx298_1 := (cell_far (p := ⟨gb297, 0, none⟩) (by first | (rw [add_block]; exact hn298_0) | (show (Addr.add _ _).block ≠ _; rw [add_block]; exact hn298_0) | exact hn298_0) (.int .i64 t293)).trans hx298_1; replace hx298_2 := (cell_far (p := ⟨gb297, 0, none⟩) (by first | (rw [add_block]; exact hn298_0) | (show (Addr.add _ _).block ≠ _; rw [add_block]; exact hn298_0) | exact hn298_0) (.int .i64 t293)).trans hx298_2; replace hx298_0 := (cell_far (p := ⟨gb297, 1, none⟩) (by first | (rw [add_block]; exact hn298_1) | (show (Addr.add _ _).block ≠ _; rw [add_block]; exact hn298_1) | exact hn298_1) (.int .i64 t294)).trans hx298_0; replace hx298_1 := (cell_far (p := ⟨gb297, 1, none⟩) (by first | (rw [add_block]; exact hn298_1) | (show (Addr.add _ _).block ≠ _; rw [add_block]; exact hn298_1) | exact hn298_1) (.int .i64 t294)).trans hx298_1; replace hx298_2 := (cell_far (p := ⟨gb297, 1, none⟩) (by first | (rw [add_block]; exact hn298_1) | (show (Addr.add _ _).block ≠ _; rw [add_block]; exact hn298_1) | exact hn298_1) (.int .i64 t294)).trans hx298_2; replace hx298_0 := (cell_far (p := ⟨gb297, 2, none⟩) (by first | (rw [add_block]; exact hn298_2) | (show (Addr.add _ _).block ≠ _; rw [add_block]; exact hn298_2) | exact hn298_2) (.int .i64 t295)).trans hx298_0; replace hx298_1 := (cell_far (p := ⟨gb297, 2, none⟩) (by first | (rw [add_block]; exact hn298_2) | (show (Addr.add _ _).block ≠ _; rw [add_block]; exact hn298_2) | exact hn298_2) (.int .i64 t295)).trans hx298_1; replace hx298_2 := (cell_far (p := ⟨gb297, 2, none⟩) (by first | (rw [add_block]; exact hn298_2) | (show (Addr.add _ _).block ≠ _; rw [add_block]; exact hn298_2) | exact hn298_2) (.int .i64 t295)).trans hx298_2; clear hn298_0 hn298_1 hn298_2; replace p298 := eq_true p298; replace q298 := eq_true q298) | ((with_reducible refine gate_callee (f := 13) rfl ?_); refine goesL_ (some 60) rfl rfl Try.func13 (by kernel_rfl) rfl #[.agg #[.int .i64 ((rd_T30 t280 x7_2).f0), .int .i64 ((rd_T30 t280 x7_2).f1), .int .i64 ((rd_T30 t280 x7_2).f2)]] rfl (by (try simp only [List.map_toArray, List.map_cons, List.map_nil]); first | done | rfl | (simp only [List.length_drop, List.length_take]; rfl)) ?_; (with_reducible refine (tilegrid_Box.calls ((rd_T30 t280 x7_2).f0) ((rd_T30 t280 x7_2).f1) ((rd_T30 t280 x7_2).f2) t299 t300 t301 t302 t303 _ A30.out).mono ?_); rintro e w48 ⟨rfl, hb⟩; refine ⟨_, rfl, ?_⟩; have n0_ := Aside0.mk (Kd.R_below (by (with_reducible repeat (first | apply Kd.R_alloc | apply Kd.R_drewN | apply Kd.R_drew)); exact (Kd.R_mono (Kd.R_far (p := ⟨gb297, 2, none⟩) (Kd.R_far (p := ⟨gb297, 1, none⟩) (Kd.R_far (p := ⟨gb297, 0, none⟩) (Kd.R_mono HO_3.out (fun k_ hk => (⟨hk, hk.2⟩ : _ ∧ k_ ≠ gb297))) (fun _ hk => hk.2) (.int .i64 t293)) (fun _ hk => hk.2) (.int .i64 t294)) (fun _ hk => hk.2) (.int .i64 t295)) (fun _ h_ => h_.1))) hb); have n1_ := Aside0.mk (blk_below (g := gb279) (o := .cells #[.int .i64 a0_0, .int .i64 a0_1, .int .i64 a0_2] 30 (0, 0)) (by (with_reducible repeat first | apply blk_drewN | apply blk_drew | apply blk_alloc); refine blk_far ?_ NB279_297.out _; (with_reducible repeat first | apply blk_drewN | apply blk_drew | apply blk_alloc); refine blk_far ?_ NB279_297.out _; (with_reducible repeat first | apply blk_drewN | apply blk_drew | apply blk_alloc); refine blk_far ?_ NB279_297.out _; (with_reducible repeat first | apply blk_drewN | apply blk_drew | apply blk_alloc); exact BK279.out) hb); have n2_ := Aside0.mk (blk_below (g := gb288) (o := .cells #[.int .i64 t283, .int .i64 t284, .int .i64 t285, .int .i64 t286] 23 (0, 0)) (by (with_reducible repeat first | apply blk_drewN | apply blk_drew | apply blk_alloc); refine blk_far ?_ NB288_297.out _; (with_reducible repeat first | apply blk_drewN | apply blk_drew | apply blk_alloc); refine blk_far ?_ NB288_297.out _; (with_reducible repeat first | apply blk_drewN | apply blk_drew | apply blk_alloc); refine blk_far ?_ NB288_297.out _; (with_reducible repeat first | apply blk_drewN | apply blk_drew | apply blk_alloc); exact BK288.out) hb); have n3_ := Aside0.mk (blk_below (g := gb297) (o := .cells #[.int .i64 t293, .int .i64 t294, .int .i64 t295] 30 (0, 0)) (by (with_reducible repeat first | apply blk_drewN | apply blk_drew | apply blk_alloc); refine blk_put (cs := #[.int .i64 t293, .int .i64 t294, .int .i64 0]) ?_ 2 _ rfl; (with_reducible repeat first | apply blk_drewN | apply blk_drew | apply blk_alloc); refine blk_put (cs := #[.int .i64 t293, .int .i64 0, .int .i64 0]) ?_ 1 _ rfl; (with_reducible repeat first | apply blk_drewN | apply blk_drew | apply blk_alloc); refine blk_put (cs := #[.int .i64 0, .int .i64 0, .int .i64 0]) ?_ 0 _ rfl; (with_reducible repeat first | apply blk_drewN | apply blk_drew | apply blk_alloc); exact BK297.out) hb); have n4_ := Aside0.mk (below_step (by repeat (first | (with_reducible first | exact HB.out | apply below_alloc | apply pw_below_drewN | apply below_drew1 | refine below_set ?_ GE279.out | refine below_set ?_ GE288.out | refine below_set ?_ GE297.out) | exact HB.out)) hb); clear HO_3 BK279 BK288 BK297 HB; have HO_3 := n0_; have BK279 := n1_; have BK288 := n2_; have BK297 := n3_; have HB := n4_; clear n0_ n1_ n2_ n3_ n4_; (try clear hb); (try clear hb2); (try clear hk); (try clear hi)) | ((with_reducible refine gate_dst (N := 10) rfl ?_); (try (refine gate_guard (by rfl) ?_; dsimp only)); refine box_event ?hg (N := 10) ?hd (cs := #[.int .i64 0, .int .i64 0, .int .i64 0, .int .i64 0]) (t := 23) ?hr ?_; (case hd => rfl); (case hg => rfl); (case hr => first | (go_simp; done) | (go_simp; rfl)); intro gb304 hg w49 hbox hb; have n0_ := Aside0.mk (Kd.R_below (by (with_reducible repeat (first | apply Kd.R_alloc | apply Kd.R_drewN | apply Kd.R_drew)); exact HO_3.out) hb); have n1_ := Aside0.mk (blk_below (by (with_reducible repeat first | apply blk_drewN | apply blk_drew | apply blk_alloc); exact BK279.out) hb); have n2_ := Aside0.mk (blk_below (by (with_reducible repeat first | apply blk_drewN | apply blk_drew | apply blk_alloc); exact BK288.out) hb); have n3_ := Aside0.mk (blk_below (by (with_reducible repeat first | apply blk_drewN | apply blk_drew | apply blk_alloc); exact BK297.out) hb); have n4_ := Aside0.mk (below_step (by repeat (first | (with_reducible first | exact HB.out | apply below_alloc | apply pw_below_drewN | apply below_drew1 | refine below_set ?_ GE279.out | refine below_set ?_ GE288.out | refine below_set ?_ GE297.out) | exact HB.out)) hb); have n5_ := Aside0.mk (hbox); have n6_ := Aside0.mk ((by rw [hg]; exact (below_size (by repeat (first | (with_reducible first | exact HB.out | apply below_alloc | apply pw_below_drewN | apply below_drew1 | refine below_set ?_ GE279.out | refine below_set ?_ GE288.out | refine below_set ?_ GE297.out) | exact HB.out))) : w.heap.size ≤ gb304)); have n7_ := n6_; have n8_ := Aside0.mk ((by rw [hg]; exact Nat.ne_of_lt (blk_lt (by (with_reducible repeat first | apply blk_drewN | apply blk_drew | apply blk_alloc); exact BK279.out)) : gb279 ≠ gb304)); have n9_ : Aside0 (gb304 ≠ gb279) := ⟨Ne.symm n8_.out⟩; have n10_ := Aside0.mk ((by rw [hg]; exact Nat.ne_of_lt (blk_lt (by (with_reducible repeat first | apply blk_drewN | apply blk_drew | apply blk_alloc); exact BK288.out)) : gb288 ≠ gb304)); have n11_ : Aside0 (gb304 ≠ gb288) := ⟨Ne.symm n10_.out⟩; have n12_ := Aside0.mk ((by rw [hg]; exact Nat.ne_of_lt (blk_lt (by (with_reducible repeat first | apply blk_drewN | apply blk_drew | apply blk_alloc); exact BK297.out)) : gb297 ≠ gb304)); have n13_ : Aside0 (gb304 ≠ gb297) := ⟨Ne.symm n12_.out⟩; clear HO_3 BK279 BK288 BK297 HB; have HO_3 := n0_; have BK279 := n1_; have BK288 := n2_; have BK297 := n3_; have HB := n4_; have BK304 := n5_; have GW304 := n6_; have GE304 := n7_; have NB279_304 := n8_; have NB304_279 := n9_; have NB288_304 := n10_; have NB304_288 := n11_; have NB297_304 := n12_; have NB304_297 := n13_; clear n0_ n1_ n2_ n3_ n4_ n5_ n6_ n7_ n8_ n9_ n10_ n11_ n12_ n13_ hb hbox hg; have hnb50 := NB304_279.out; have hnc50 := NB279_304.out; have hnb51 := NB304_288.out; have hnc51 := NB288_304.out; have hnb52 := NB304_297.out; have hnc52 := NB297_304.out; have hcz53_0 : w49.cell? ⟨gb304, 0, none⟩ = some (.int .i64 0) := (blk_cell BK304.out 0).trans rfl; have hcz53_1 : w49.cell? ⟨gb304, 1, none⟩ = some (.int .i64 0) := (blk_cell BK304.out 1).trans rfl; have hcz53_2 : w49.cell? ⟨gb304, 2, none⟩ = some (.int .i64 0) := (blk_cell BK304.out 2).trans rfl; have hcz53_3 : w49.cell? ⟨gb304, 3, none⟩ = some (.int .i64 0) := (blk_cell BK304.out 3).trans rfl; have hfz53_0 := blk_frozen BK304.out 0; have hfz53_1 := blk_frozen BK304.out 1; have hfz53_2 := blk_frozen BK304.out 2; have hfz53_3 := blk_frozen BK304.out 3))
                have n0_ : Aside0 (Kd.R k30 30 ((((w49.setCell ⟨gb304, 0, none⟩ (.int .i64 t299)).setCell ⟨gb304, 1, none⟩ (.int .i64 t300)).setCell ⟨gb304, 2, none⟩ (.int .i64 t301)).setCell ⟨gb304, 3, none⟩ (.int .i64 t302)) w.heap.size (fun k_ => k_ ≠ gb279 ∧ k_ ≠ gb297) (.slice (some ad292) t280.length co42) t280) := ⟨by (with_reducible repeat (first | apply Kd.R_alloc | apply Kd.R_drewN | apply Kd.R_drew)); exact Kd.R_mono (Kd.R_far (p := ⟨gb304, 3, none⟩) (Kd.R_far (p := ⟨gb304, 2, none⟩) (Kd.R_far (p := ⟨gb304, 1, none⟩) (Kd.R_far (p := ⟨gb304, 0, none⟩) (Kd.R_types HO_3.out BK304.out (by decide)) (fun _ hk => hk.2) (.int .i64 t299)) (fun _ hk => hk.2) (.int .i64 t300)) (fun _ hk => hk.2) (.int .i64 t301)) (fun _ hk => hk.2) (.int .i64 t302)) (fun _ hk => ⟨hk.1.1, hk.1.2⟩)⟩
                have n1_ : Aside0 (((((w49.setCell ⟨gb304, 0, none⟩ (.int .i64 t299)).setCell ⟨gb304, 1, none⟩ (.int .i64 t300)).setCell ⟨gb304, 2, none⟩ (.int .i64 t301)).setCell ⟨gb304, 3, none⟩ (.int .i64 t302)).heap[gb279]? = some (.cells #[.int .i64 a0_0, .int .i64 a0_1, .int .i64 a0_2] 30 (0, 0))) := ⟨by (with_reducible repeat first | apply blk_drewN | apply blk_drew | apply blk_alloc); refine blk_far ?_ NB279_304.out _; (with_reducible repeat first | apply blk_drewN | apply blk_drew | apply blk_alloc); refine blk_far ?_ NB279_304.out _; (with_reducible repeat first | apply blk_drewN | apply blk_drew | apply blk_alloc); refine blk_far ?_ NB279_304.out _; (with_reducible repeat first | apply blk_drewN | apply blk_drew | apply blk_alloc); refine blk_far ?_ NB279_304.out _; (with_reducible repeat first | apply blk_drewN | apply blk_drew | apply blk_alloc); exact BK279.out⟩
                have n2_ : Aside0 (((((w49.setCell ⟨gb304, 0, none⟩ (.int .i64 t299)).setCell ⟨gb304, 1, none⟩ (.int .i64 t300)).setCell ⟨gb304, 2, none⟩ (.int .i64 t301)).setCell ⟨gb304, 3, none⟩ (.int .i64 t302)).heap[gb288]? = some (.cells #[.int .i64 t283, .int .i64 t284, .int .i64 t285, .int .i64 t286] 23 (0, 0))) := ⟨by (with_reducible repeat first | apply blk_drewN | apply blk_drew | apply blk_alloc); refine blk_far ?_ NB288_304.out _; (with_reducible repeat first | apply blk_drewN | apply blk_drew | apply blk_alloc); refine blk_far ?_ NB288_304.out _; (with_reducible repeat first | apply blk_drewN | apply blk_drew | apply blk_alloc); refine blk_far ?_ NB288_304.out _; (with_reducible repeat first | apply blk_drewN | apply blk_drew | apply blk_alloc); refine blk_far ?_ NB288_304.out _; (with_reducible repeat first | apply blk_drewN | apply blk_drew | apply blk_alloc); exact BK288.out⟩
                have n3_ : Aside0 (((((w49.setCell ⟨gb304, 0, none⟩ (.int .i64 t299)).setCell ⟨gb304, 1, none⟩ (.int .i64 t300)).setCell ⟨gb304, 2, none⟩ (.int .i64 t301)).setCell ⟨gb304, 3, none⟩ (.int .i64 t302)).heap[gb297]? = some (.cells #[.int .i64 t293, .int .i64 t294, .int .i64 t295] 30 (0, 0))) := ⟨by (with_reducible repeat first | apply blk_drewN | apply blk_drew | apply blk_alloc); refine blk_far ?_ NB297_304.out _; (with_reducible repeat first | apply blk_drewN | apply blk_drew | apply blk_alloc); refine blk_far ?_ NB297_304.out _; (with_reducible repeat first | apply blk_drewN | apply blk_drew | apply blk_alloc); refine blk_far ?_ NB297_304.out _; (with_reducible repeat first | apply blk_drewN | apply blk_drew | apply blk_alloc); refine blk_far ?_ NB297_304.out _; (with_reducible repeat first | apply blk_drewN | apply blk_drew | apply blk_alloc); exact BK297.out⟩
                have n4_ : Aside0 (((((w49.setCell ⟨gb304, 0, none⟩ (.int .i64 t299)).setCell ⟨gb304, 1, none⟩ (.int .i64 t300)).setCell ⟨gb304, 2, none⟩ (.int .i64 t301)).setCell ⟨gb304, 3, none⟩ (.int .i64 t302)).heap[gb304]? = some (.cells #[.int .i64 t299, .int .i64 t300, .int .i64 t301, .int .i64 t302] 23 (0, 0))) := ⟨by (with_reducible repeat first | apply blk_drewN | apply blk_drew | apply blk_alloc); refine blk_put (cs := #[.int .i64 t299, .int .i64 t300, .int .i64 t301, .int .i64 0]) ?_ 3 _ rfl; (with_reducible repeat first | apply blk_drewN | apply blk_drew | apply blk_alloc); refine blk_put (cs := #[.int .i64 t299, .int .i64 t300, .int .i64 0, .int .i64 0]) ?_ 2 _ rfl; (with_reducible repeat first | apply blk_drewN | apply blk_drew | apply blk_alloc); refine blk_put (cs := #[.int .i64 t299, .int .i64 0, .int .i64 0, .int .i64 0]) ?_ 1 _ rfl; (with_reducible repeat first | apply blk_drewN | apply blk_drew | apply blk_alloc); refine blk_put (cs := #[.int .i64 0, .int .i64 0, .int .i64 0, .int .i64 0]) ?_ 0 _ rfl; (with_reducible repeat first | apply blk_drewN | apply blk_drew | apply blk_alloc); exact BK304.out⟩
                have n5_ : Aside0 (Below w.heap.size w ((((w49.setCell ⟨gb304, 0, none⟩ (.int .i64 t299)).setCell ⟨gb304, 1, none⟩ (.int .i64 t300)).setCell ⟨gb304, 2, none⟩ (.int .i64 t301)).setCell ⟨gb304, 3, none⟩ (.int .i64 t302))) := ⟨by repeat (first | (with_reducible first | exact HB.out | apply below_alloc | apply pw_below_drewN | apply below_drew1 | refine below_set ?_ GE279.out | refine below_set ?_ GE288.out | refine below_set ?_ GE297.out | refine below_set ?_ GE304.out) | exact HB.out)⟩
                (try clear HO_3)
                (try clear BK279)
                (try clear BK288)
                (try clear BK297)
                (try clear BK304)
                (try clear HB)
                generalize ((((w49.setCell ⟨gb304, 0, none⟩ (.int .i64 t299)).setCell ⟨gb304, 1, none⟩ (.int .i64 t300)).setCell ⟨gb304, 2, none⟩ (.int .i64 t301)).setCell ⟨gb304, 3, none⟩ (.int .i64 t302)) = w54 at n0_ n1_ n2_ n3_ n4_ n5_ ⊢
                have HO_3 := n0_; have BK279 := n1_; have BK288 := n2_; have BK297 := n3_; have BK304 := n4_; have HB := n5_
                clear n0_ n1_ n2_ n3_ n4_ n5_
                have n0_ := Aside0.mk (Kd.R_drew HO_3.out)
                have n1_ := Aside0.mk (blk_drew BK279.out)
                have n2_ := Aside0.mk (blk_drew BK288.out)
                have n3_ := Aside0.mk (blk_drew BK297.out)
                have n4_ := Aside0.mk (blk_drew BK304.out)
                have n5_ := Aside0.mk (below_drew1 HB.out)
                clear HO_3 BK279 BK288 BK297 BK304 HB
                have HO_3 := n0_; have BK279 := n1_; have BK288 := n2_; have BK297 := n3_; have BK304 := n4_; have HB := n5_
                clear n0_ n1_ n2_ n3_ n4_ n5_
                have p305 : 0 ≤ ((ji35) : Int) := of_decide_eq_true (by first | (with_reducible assumption) | assumption)
                have q305 : (ji35) < (t280.length : Int) := of_decide_eq_true (by first | (with_reducible assumption) | assumption)
                obtain ⟨ad305, e305, hx305_0, hx305_1, hx305_2⟩ := at_T30 (Kd.R_reads' HO_3.out).2.2 (ji35) p305 q305
                obtain rfl : ad292 = ad305 := (by injection e305)
                replace p305 := eq_true p305
                replace q305 := eq_true q305
                have p306 : 0 ≤ (x7_2 : Int) := of_decide_eq_true (by first | (with_reducible assumption) | assumption)
                have q306 : x7_2 < (t280.length : Int) := of_decide_eq_true (by first | (with_reducible assumption) | assumption)
                obtain ⟨ad306, e306, hx306_0, hx306_1, hx306_2⟩ := at_T30 (Kd.R_reads' HO_3.out).2.2 x7_2 p306 q306
                obtain rfl : ad292 = ad306 := (by injection e306)
                replace p306 := eq_true p306
                replace q306 := eq_true q306
                refine start_ (n := 35) (S := fun w' => w'.cell? ⟨gb297, 0, none⟩ = some (.int .i64 t293) ∧ w'.cell? ⟨gb297, 1, none⟩ = some (.int .i64 t294) ∧ w'.cell? ⟨gb297, 2, none⟩ = some (.int .i64 t295) ∧ w'.cell? ⟨gb279, 0, none⟩ = some (.int .i64 a0_0) ∧ w'.cell? ⟨gb279, 1, none⟩ = some (.int .i64 a0_1) ∧ w'.cell? ⟨gb279, 2, none⟩ = some (.int .i64 a0_2) ∧ w'.cell? ⟨gb288, 0, none⟩ = some (.int .i64 t283) ∧ w'.cell? ⟨gb288, 1, none⟩ = some (.int .i64 t284) ∧ w'.cell? ⟨gb288, 2, none⟩ = some (.int .i64 t285) ∧ w'.cell? ⟨gb288, 3, none⟩ = some (.int .i64 t286) ∧ w'.cell? ⟨gb304, 0, none⟩ = some (.int .i64 t299) ∧ w'.cell? ⟨gb304, 1, none⟩ = some (.int .i64 t300) ∧ w'.cell? ⟨gb304, 2, none⟩ = some (.int .i64 t301) ∧ w'.cell? ⟨gb304, 3, none⟩ = some (.int .i64 t302) ∧ w'.cell? (ad292.add (((ji35)).toNat * 3)) = some (.int .i64 ((rd_T30 t280 (ji35)).f0)) ∧ w'.cell? ⟨(ad292.add (((ji35)).toNat * 3)).block, (ad292.add (((ji35)).toNat * 3)).off + 1, none⟩ = some (.int .i64 ((rd_T30 t280 (ji35)).f1)) ∧ w'.cell? ⟨(ad292.add (((ji35)).toNat * 3)).block, (ad292.add (((ji35)).toNat * 3)).off + 2, none⟩ = some (.int .i64 ((rd_T30 t280 (ji35)).f2)) ∧ w'.cell? (ad292.add ((x7_2).toNat * 3)) = some (.int .i64 ((rd_T30 t280 x7_2).f0)) ∧ w'.cell? ⟨(ad292.add ((x7_2).toNat * 3)).block, (ad292.add ((x7_2).toNat * 3)).off + 1, none⟩ = some (.int .i64 ((rd_T30 t280 x7_2).f1)) ∧ w'.cell? ⟨(ad292.add ((x7_2).toNat * 3)).block, (ad292.add ((x7_2).toNat * 3)).off + 2, none⟩ = some (.int .i64 ((rd_T30 t280 x7_2).f2))) (ds := []) #[false, false, false, false, false, false, false, false, false, false, false, false, false, false, false, false, false, false, false, false, false, false, false, false, false, false, false, false, false, false, false, false, false, false, false] (by kernel_rfl) rfl rfl ⟨(blk_cell BK297.out 0).trans rfl, (blk_cell BK297.out 1).trans rfl, (blk_cell BK297.out 2).trans rfl, (blk_cell BK279.out 0).trans rfl, (blk_cell BK279.out 1).trans rfl, (blk_cell BK279.out 2).trans rfl, (blk_cell BK288.out 0).trans rfl, (blk_cell BK288.out 1).trans rfl, (blk_cell BK288.out 2).trans rfl, (blk_cell BK288.out 3).trans rfl, (blk_cell BK304.out 0).trans rfl, (blk_cell BK304.out 1).trans rfl, (blk_cell BK304.out 2).trans rfl, (blk_cell BK304.out 3).trans rfl, hx305_0, hx305_1, hx305_2, hx306_0, hx306_1, hx306_2⟩ (fun hHeld => ?_); refine with_tabW mapmakerlaw28_TilegridTree.tab11 mapmakerlaw28_TilegridTree.bits11 (fun HT_ HW_ => ?_)
                generalize w54.drew = w55 at HO_3 BK279 BK288 BK297 BK304 HB hx305_0 hx305_1 hx305_2 hx306_0 hx306_1 hx306_2 hHeld ⊢
                refine pure_ (i := 0) (N := some 63) (v := ?_) (a' := ?_) #[true, false, false, false, false, false, false, false, false, false, false, false, false, false, false, false, false, false, false, false, false, false, false, false, false, false, false, false, false, false, false, false, false, false, false] rfl rfl (any_of HT_.out (by kernel_rfl)) (fun _ _ _ h => h) (Or.inl ⟨by rfl, ?_⟩) ?_ ?_
                rotate_left
                ·intro w'
                 go_simp
                 with_reducible rfl
                rotate_left
                ·simp only [Act.put, List.setIfInBounds_toArray, List.set_cons_zero, List.set_cons_succ, i64_w, i32_w]
                 rfl
                refine pure_ (i := 1) (N := some 64) (v := ?_) (a' := ?_) #[true, true, false, false, false, false, false, false, false, false, false, false, false, false, false, false, false, false, false, false, false, false, false, false, false, false, false, false, false, false, false, false, false, false, false] rfl rfl (any_of HT_.out (by kernel_rfl)) (fun _ _ _ h => h) (Or.inl ⟨by rfl, ?_⟩) ?_ ?_
                rotate_left
                ·intro w'
                 go_simp
                 with_reducible rfl
                rotate_left
                ·simp only [Act.put, List.setIfInBounds_toArray, List.set_cons_zero, List.set_cons_succ, i64_w, i32_w]
                 rfl
                refine pure_ (i := 2) (N := some 65) (v := ?_) (a' := ?_) #[true, true, true, false, false, false, false, false, false, false, false, false, false, false, false, false, false, false, false, false, false, false, false, false, false, false, false, false, false, false, false, false, false, false, false] rfl rfl (any_of HT_.out (by kernel_rfl)) (fun _ _ _ h => h) (Or.inl ⟨by rfl, ?_⟩) ?_ ?_
                rotate_left
                ·intro w'
                 go_simp
                 with_reducible rfl
                rotate_left
                ·simp only [Act.put, List.setIfInBounds_toArray, List.set_cons_zero, List.set_cons_succ, i64_w, i32_w]
                 rfl
                refine take_ (i := 3) (N := some 66) (v := ?_) (a' := ?_) #[true, true, true, true, false, false, false, false, false, false, false, false, false, false, false, false, false, false, false, false, false, false, false, false, false, false, false, false, false, false, false, false, false, false, false] rfl rfl (take_ofW HT_.out HW_.out (by kernel_rfl)) (fun _ _ _ h => h) (Or.inl ⟨by rfl, ?_⟩) hHeld ?_ ?_
                rotate_left
                ·rintro w' ⟨s0, s1, s2, s3, s4, s5, s6, s7, s8, s9, s10, s11, s12, s13, s14, s15, s16, s17, s18, s19⟩
                 go_simp
                 with_reducible rfl
                rotate_left
                ·simp only [Act.put, List.setIfInBounds_toArray, List.set_cons_zero, List.set_cons_succ, i64_w, i32_w]
                 rfl
                refine take_ (i := 4) (N := some 67) (v := ?_) (a' := ?_) #[true, true, true, true, true, false, false, false, false, false, false, false, false, false, false, false, false, false, false, false, false, false, false, false, false, false, false, false, false, false, false, false, false, false, false] rfl rfl (take_ofW HT_.out HW_.out (by kernel_rfl)) (fun _ _ _ h => h) (Or.inl ⟨by rfl, ?_⟩) hHeld ?_ ?_
                rotate_left
                ·rintro w' ⟨s0, s1, s2, s3, s4, s5, s6, s7, s8, s9, s10, s11, s12, s13, s14, s15, s16, s17, s18, s19⟩
                 go_simp
                 with_reducible rfl
                rotate_left
                ·simp only [Act.put, List.setIfInBounds_toArray, List.set_cons_zero, List.set_cons_succ, i64_w, i32_w]
                 rfl
                refine pure_ (i := 5) (N := some 68) (v := ?_) (a' := ?_) #[true, true, true, true, true, true, false, false, false, false, false, false, false, false, false, false, false, false, false, false, false, false, false, false, false, false, false, false, false, false, false, false, false, false, false] rfl rfl (any_of HT_.out (by kernel_rfl)) (fun _ _ _ h => h) (Or.inl ⟨by rfl, ?_⟩) ?_ ?_
                rotate_left
                ·intro w'
                 go_simp
                 with_reducible rfl
                rotate_left
                ·simp only [Act.put, List.setIfInBounds_toArray, List.set_cons_zero, List.set_cons_succ, i64_w, i32_w]
                 rfl
                refine pure_ (i := 6) (N := some 69) (v := ?_) (a' := ?_) #[true, true, true, true, true, true, true, false, false, false, false, false, false, false, false, false, false, false, false, false, false, false, false, false, false, false, false, false, false, false, false, false, false, false, false] rfl rfl (any_of HT_.out (by kernel_rfl)) (fun _ _ _ h => h) (Or.inl ⟨by rfl, ?_⟩) ?_ ?_
                rotate_left
                ·intro w'
                 go_simp
                 with_reducible rfl
                rotate_left
                ·simp only [Act.put, List.setIfInBounds_toArray, List.set_cons_zero, List.set_cons_succ, i64_w, i32_w]
                 rfl
                refine pure_ (i := 7) (N := some 70) (v := ?_) (a' := ?_) #[true, true, true, true, true, true, true, true, false, false, false, false, false, false, false, false, false, false, false, false, false, false, false, false, false, false, false, false, false, false, false, false, false, false, false] rfl rfl (any_of HT_.out (by kernel_rfl)) (fun _ _ _ h => h) (Or.inl ⟨by rfl, ?_⟩) ?_ ?_
                rotate_left
                ·intro w'
                 go_simp
                 with_reducible rfl
                rotate_left
                ·simp only [Act.put, List.setIfInBounds_toArray, List.set_cons_zero, List.set_cons_succ, i64_w, i32_w]
                 rfl
                refine pure_ (i := 8) (N := some 71) (v := ?_) (a' := ?_) #[true, true, true, true, true, true, true, true, true, false, false, false, false, false, false, false, false, false, false, false, false, false, false, false, false, false, false, false, false, false, false, false, false, false, false] rfl rfl (any_of HT_.out (by kernel_rfl)) (fun _ _ _ h => h) (Or.inl ⟨by rfl, ?_⟩) ?_ ?_
                rotate_left
                ·intro w'
                 go_simp
                 with_reducible rfl
                rotate_left
                ·simp only [Act.put, List.setIfInBounds_toArray, List.set_cons_zero, List.set_cons_succ, i64_w, i32_w]
                 rfl
                refine pure_ (i := 9) (N := some 72) (v := ?_) (a' := ?_) #[true, true, true, true, true, true, true, true, true, true, false, false, false, false, false, false, false, false, false, false, false, false, false, false, false, false, false, false, false, false, false, false, false, false, false] rfl rfl (any_of HT_.out (by kernel_rfl)) (fun _ _ _ h => h) (Or.inl ⟨by rfl, ?_⟩) ?_ ?_
                rotate_left
                ·intro w'
                 go_simp
                 with_reducible rfl
                rotate_left
                ·simp only [Act.put, List.setIfInBounds_toArray, List.set_cons_zero, List.set_cons_succ, i64_w, i32_w]
                 rfl
                refine pure_ (i := 10) (N := some 73) (v := ?_) (a' := ?_) #[true, true, true, true, true, true, true, true, true, true, true, false, false, false, false, false, false, false, false, false, false, false, false, false, false, false, false, false, false, false, false, false, false, false, false] rfl rfl (any_of HT_.out (by kernel_rfl)) (fun _ _ _ h => h) (Or.inl ⟨by rfl, ?_⟩) ?_ ?_
                rotate_left
                ·intro w'
                 go_simp
                 with_reducible rfl
                rotate_left
                ·simp only [Act.put, List.setIfInBounds_toArray, List.set_cons_zero, List.set_cons_succ, i64_w, i32_w]
                 rfl
                refine pure_ (i := 11) (N := some 74) (v := ?_) (a' := ?_) #[true, true, true, true, true, true, true, true, true, true, true, true, false, false, false, false, false, false, false, false, false, false, false, false, false, false, false, false, false, false, false, false, false, false, false] rfl rfl (any_of HT_.out (by kernel_rfl)) (fun _ _ _ h => h) (Or.inl ⟨by rfl, ?_⟩) ?_ ?_
                rotate_left
                ·intro w'
                 go_simp
                 with_reducible rfl
                rotate_left
                ·simp only [Act.put, List.setIfInBounds_toArray, List.set_cons_zero, List.set_cons_succ, i64_w, i32_w]
                 rfl
                refine pure_ (i := 12) (N := some 75) (v := ?_) (a' := ?_) #[true, true, true, true, true, true, true, true, true, true, true, true, true, false, false, false, false, false, false, false, false, false, false, false, false, false, false, false, false, false, false, false, false, false, false] rfl rfl (any_of HT_.out (by kernel_rfl)) (fun _ _ _ h => h) (Or.inl ⟨by rfl, ?_⟩) ?_ ?_
                rotate_left
                ·intro w'
                 go_simp
                 with_reducible rfl
                rotate_left
                ·simp only [Act.put, List.setIfInBounds_toArray, List.set_cons_zero, List.set_cons_succ, i64_w, i32_w]
                 rfl
                refine pure_ (i := 13) (N := some 76) (v := ?_) (a' := ?_) #[true, true, true, true, true, true, true, true, true, true, true, true, true, true, false, false, false, false, false, false, false, false, false, false, false, false, false, false, false, false, false, false, false, false, false] rfl rfl (any_of HT_.out (by kernel_rfl)) (fun _ _ _ h => h) (Or.inl ⟨by rfl, ?_⟩) ?_ ?_
                rotate_left
                ·intro w'
                 go_simp
                 with_reducible rfl
                rotate_left
                ·simp only [Act.put, List.setIfInBounds_toArray, List.set_cons_zero, List.set_cons_succ, i64_w, i32_w]
                 rfl
                refine pure_ (i := 14) (N := some 77) (v := ?_) (a' := ?_) #[true, true, true, true, true, true, true, true, true, true, true, true, true, true, true, false, false, false, false, false, false, false, false, false, false, false, false, false, false, false, false, false, false, false, false] rfl rfl (any_of HT_.out (by kernel_rfl)) (fun _ _ _ h => h) (Or.inl ⟨by rfl, ?_⟩) ?_ ?_
                rotate_left
                ·intro w'
                 go_simp
                 with_reducible rfl
                rotate_left
                ·simp only [Act.put, List.setIfInBounds_toArray, List.set_cons_zero, List.set_cons_succ, i64_w, i32_w]
                 rfl
                refine pure_ (i := 15) (N := some 78) (v := ?_) (a' := ?_) #[true, true, true, true, true, true, true, true, true, true, true, true, true, true, true, true, false, false, false, false, false, false, false, false, false, false, false, false, false, false, false, false, false, false, false] rfl rfl (any_of HT_.out (by kernel_rfl)) (fun _ _ _ h => h) (Or.inl ⟨by rfl, ?_⟩) ?_ ?_
                rotate_left
                ·intro w'
                 go_simp
                 with_reducible rfl
                rotate_left
                ·simp only [Act.put, List.setIfInBounds_toArray, List.set_cons_zero, List.set_cons_succ, i64_w, i32_w]
                 rfl
                refine pure_ (i := 16) (N := some 79) (v := ?_) (a' := ?_) #[true, true, true, true, true, true, true, true, true, true, true, true, true, true, true, true, true, false, false, false, false, false, false, false, false, false, false, false, false, false, false, false, false, false, false] rfl rfl (any_of HT_.out (by kernel_rfl)) (fun _ _ _ h => h) (Or.inl ⟨by rfl, ?_⟩) ?_ ?_
                rotate_left
                ·intro w'
                 go_simp
                 with_reducible rfl
                rotate_left
                ·simp only [Act.put, List.setIfInBounds_toArray, List.set_cons_zero, List.set_cons_succ, i64_w, i32_w]
                 rfl
                refine pure_ (i := 17) (N := some 80) (v := ?_) (a' := ?_) #[true, true, true, true, true, true, true, true, true, true, true, true, true, true, true, true, true, true, false, false, false, false, false, false, false, false, false, false, false, false, false, false, false, false, false] rfl rfl (any_of HT_.out (by kernel_rfl)) (fun _ _ _ h => h) (Or.inl ⟨by rfl, ?_⟩) ?_ ?_
                rotate_left
                ·intro w'
                 go_simp
                 with_reducible rfl
                rotate_left
                ·simp only [Act.put, List.setIfInBounds_toArray, List.set_cons_zero, List.set_cons_succ, i64_w, i32_w]
                 rfl
                refine pure_ (i := 18) (N := some 81) (v := ?_) (a' := ?_) #[true, true, true, true, true, true, true, true, true, true, true, true, true, true, true, true, true, true, true, false, false, false, false, false, false, false, false, false, false, false, false, false, false, false, false] rfl rfl (any_of HT_.out (by kernel_rfl)) (fun _ _ _ h => h) (Or.inl ⟨by rfl, ?_⟩) ?_ ?_
                rotate_left
                ·intro w'
                 go_simp
                 with_reducible rfl
                rotate_left
                ·simp only [Act.put, List.setIfInBounds_toArray, List.set_cons_zero, List.set_cons_succ, i64_w, i32_w]
                 rfl
                refine pure_ (i := 20) (N := some 83) (v := ?_) (a' := ?_) #[true, true, true, true, true, true, true, true, true, true, true, true, true, true, true, true, true, true, true, false, true, false, false, false, false, false, false, false, false, false, false, false, false, false, false] rfl rfl (any_of HT_.out (by kernel_rfl)) (fun _ _ _ h => h) (Or.inl ⟨by rfl, ?_⟩) ?_ ?_
                rotate_left
                ·intro w'
                 go_simp
                 with_reducible rfl
                rotate_left
                ·simp only [Act.put, List.setIfInBounds_toArray, List.set_cons_zero, List.set_cons_succ, i64_w, i32_w]
                 rfl
                refine pure_ (i := 21) (N := some 84) (v := ?_) (a' := ?_) #[true, true, true, true, true, true, true, true, true, true, true, true, true, true, true, true, true, true, true, false, true, true, false, false, false, false, false, false, false, false, false, false, false, false, false] rfl rfl (any_of HT_.out (by kernel_rfl)) (fun _ _ _ h => h) (Or.inl ⟨by rfl, ?_⟩) ?_ ?_
                rotate_left
                ·intro w'
                 go_simp
                 with_reducible rfl
                rotate_left
                ·simp only [Act.put, List.setIfInBounds_toArray, List.set_cons_zero, List.set_cons_succ, i64_w, i32_w]
                 rfl
                refine pure_ (i := 22) (N := some 85) (v := ?_) (a' := ?_) #[true, true, true, true, true, true, true, true, true, true, true, true, true, true, true, true, true, true, true, false, true, true, true, false, false, false, false, false, false, false, false, false, false, false, false] rfl rfl (any_of HT_.out (by kernel_rfl)) (fun _ _ _ h => h) (Or.inl ⟨by rfl, ?_⟩) ?_ ?_
                rotate_left
                ·intro w'
                 go_simp
                 with_reducible rfl
                rotate_left
                ·simp only [Act.put, List.setIfInBounds_toArray, List.set_cons_zero, List.set_cons_succ, i64_w, i32_w]
                 rfl
                refine take_ (i := 19) (N := some 82) (v := ?_) (a' := ?_) #[true, true, true, true, true, true, true, true, true, true, true, true, true, true, true, true, true, true, true, true, true, true, true, false, false, false, false, false, false, false, false, false, false, false, false] rfl rfl (take_ofW HT_.out HW_.out (by kernel_rfl)) (fun _ _ _ h => h) (Or.inl ⟨by rfl, ?_⟩) hHeld ?_ ?_
                rotate_left
                ·rintro w' ⟨s0, s1, s2, s3, s4, s5, s6, s7, s8, s9, s10, s11, s12, s13, s14, s15, s16, s17, s18, s19⟩
                 go_simp
                 with_reducible rfl
                rotate_left
                ·simp only [Act.put, List.setIfInBounds_toArray, List.set_cons_zero, List.set_cons_succ, i64_w, i32_w]
                 rfl
                refine take_ (i := 23) (N := some 86) (v := ?_) (a' := ?_) #[true, true, true, true, true, true, true, true, true, true, true, true, true, true, true, true, true, true, true, true, true, true, true, true, false, false, false, false, false, false, false, false, false, false, false] rfl rfl (take_ofW HT_.out HW_.out (by kernel_rfl)) (fun _ _ _ h => h) (Or.inl ⟨by rfl, ?_⟩) hHeld ?_ ?_
                rotate_left
                ·rintro w' ⟨s0, s1, s2, s3, s4, s5, s6, s7, s8, s9, s10, s11, s12, s13, s14, s15, s16, s17, s18, s19⟩
                 go_simp
                 with_reducible rfl
                rotate_left
                ·simp only [Act.put, List.setIfInBounds_toArray, List.set_cons_zero, List.set_cons_succ, i64_w, i32_w]
                 rfl
                refine one_ (i := 24) (N := some 87) #[true, true, true, true, true, true, true, true, true, true, true, true, true, true, true, true, true, true, true, true, true, true, true, true, true, false, false, false, false, false, false, false, false, false, false] rfl rfl (one_of HT_.out (by kernel_rfl)) (by decide) (fun K hK => ?_)
                refine goes_ Try.func23 (by kernel_rfl) rfl #[.agg #[.int .i64 ((rd_T30 t280 (ji35)).f0), .int .i64 ((rd_T30 t280 (ji35)).f1), .int .i64 ((rd_T30 t280 (ji35)).f2)], .agg #[.int .i64 ((rd_T30 t280 x7_2).f0), .int .i64 ((rd_T30 t280 x7_2).f1), .int .i64 ((rd_T30 t280 x7_2).f2)]] (by rfl) rfl rfl (by (try simp only [List.map_toArray, List.map_cons, List.map_nil]); first | done | (simp only [hji35]; rfl) | rfl | (simp only [List.length_drop, List.length_take]; rfl)) ?_
                with_reducible refine (tilegrid_Less.calls ((rd_T30 t280 (ji35)).f0) ((rd_T30 t280 (ji35)).f1) ((rd_T30 t280 (ji35)).f2) ((rd_T30 t280 x7_2).f0) ((rd_T30 t280 x7_2).f1) ((rd_T30 t280 x7_2).f2) true _ A38.out).mono ?_
                rintro e w56 ⟨rfl, hb⟩
                have HS14_ := (hb.cell (World.block_lt_of_cell? _ _ (hHeld.2.2.2.2.2.2.2.2.2.2.2.2.2.2.1))).trans (hHeld.2.2.2.2.2.2.2.2.2.2.2.2.2.2.1)
                have HS15_ := (hb.cell (World.block_lt_of_cell? _ _ (hHeld.2.2.2.2.2.2.2.2.2.2.2.2.2.2.2.1))).trans (hHeld.2.2.2.2.2.2.2.2.2.2.2.2.2.2.2.1)
                have HS16_ := (hb.cell (World.block_lt_of_cell? _ _ (hHeld.2.2.2.2.2.2.2.2.2.2.2.2.2.2.2.2.1))).trans (hHeld.2.2.2.2.2.2.2.2.2.2.2.2.2.2.2.2.1)
                have HS17_ := (hb.cell (World.block_lt_of_cell? _ _ (hHeld.2.2.2.2.2.2.2.2.2.2.2.2.2.2.2.2.2.1))).trans (hHeld.2.2.2.2.2.2.2.2.2.2.2.2.2.2.2.2.2.1)
                have HS18_ := (hb.cell (World.block_lt_of_cell? _ _ (hHeld.2.2.2.2.2.2.2.2.2.2.2.2.2.2.2.2.2.2.1))).trans (hHeld.2.2.2.2.2.2.2.2.2.2.2.2.2.2.2.2.2.2.1)
                have HS19_ := (hb.cell (World.block_lt_of_cell? _ _ (hHeld.2.2.2.2.2.2.2.2.2.2.2.2.2.2.2.2.2.2.2))).trans (hHeld.2.2.2.2.2.2.2.2.2.2.2.2.2.2.2.2.2.2.2)
                refine ⟨_, rfl, ?_⟩
                have n0_ := Aside0.mk (Kd.R_below (by (with_reducible repeat (first | apply Kd.R_alloc | apply Kd.R_drewN | apply Kd.R_drew)); exact HO_3.out) hb)
                have n1_ := Aside0.mk (blk_below (by (with_reducible repeat first | apply blk_drewN | apply blk_drew | apply blk_alloc); exact BK279.out) hb)
                have n2_ := Aside0.mk (blk_below (by (with_reducible repeat first | apply blk_drewN | apply blk_drew | apply blk_alloc); exact BK288.out) hb)
                have n3_ := Aside0.mk (blk_below (by (with_reducible repeat first | apply blk_drewN | apply blk_drew | apply blk_alloc); exact BK297.out) hb)
                have n4_ := Aside0.mk (blk_below (by (with_reducible repeat first | apply blk_drewN | apply blk_drew | apply blk_alloc); exact BK304.out) hb)
                have n5_ := Aside0.mk (below_step (by repeat (first | (with_reducible first | exact HB.out | apply below_alloc | apply pw_below_drewN | apply below_drew1 | refine below_set ?_ GE279.out | refine below_set ?_ GE288.out | refine below_set ?_ GE297.out | refine below_set ?_ GE304.out) | exact HB.out)) hb)
                clear HO_3 BK279 BK288 BK297 BK304 HB
                have HO_3 := n0_; have BK279 := n1_; have BK288 := n2_; have BK297 := n3_; have BK304 := n4_; have HB := n5_
                clear n0_ n1_ n2_ n3_ n4_ n5_
                (try clear hb)
                (try clear hb2)
                (try clear hk)
                (try clear hi)
                refine hK.out _ _ ⟨(blk_cell BK297.out 0).trans rfl, (blk_cell BK297.out 1).trans rfl, (blk_cell BK297.out 2).trans rfl, (blk_cell BK279.out 0).trans rfl, (blk_cell BK279.out 1).trans rfl, (blk_cell BK279.out 2).trans rfl, (blk_cell BK288.out 0).trans rfl, (blk_cell BK288.out 1).trans rfl, (blk_cell BK288.out 2).trans rfl, (blk_cell BK288.out 3).trans rfl, (blk_cell BK304.out 0).trans rfl, (blk_cell BK304.out 1).trans rfl, (blk_cell BK304.out 2).trans rfl, (blk_cell BK304.out 3).trans rfl, HS14_, HS15_, HS16_, HS17_, HS18_, HS19_⟩ (fun hHeld => ?_)
                clear hK K
                refine norm_ (a' := ?_) ?_ ?_
                rotate_left
                ·show Act.put _ (some 87) _ = _
                 simp only [Act.put, List.setIfInBounds_toArray, List.set_cons_zero, List.set_cons_succ, i64_w, i32_w]
                 rfl
                refine pure_ (i := 25) (N := some 88) (v := ?_) (a' := ?_) #[true, true, true, true, true, true, true, true, true, true, true, true, true, true, true, true, true, true, true, true, true, true, true, true, true, true, false, false, false, false, false, false, false, false, false] rfl rfl (any_of HT_.out (by kernel_rfl)) (fun _ _ _ h => h) (Or.inl ⟨by rfl, ?_⟩) ?_ ?_
                rotate_left
                ·intro w'
                 go_simp
                 with_reducible rfl
                rotate_left
                ·simp only [Act.put, List.setIfInBounds_toArray, List.set_cons_zero, List.set_cons_succ, i64_w, i32_w]
                 rfl
                refine pure_ (i := 26) (N := some 89) (v := ?_) (a' := ?_) #[true, true, true, true, true, true, true, true, true, true, true, true, true, true, true, true, true, true, true, true, true, true, true, true, true, true, true, false, false, false, false, false, false, false, false] rfl rfl (any_of HT_.out (by kernel_rfl)) (fun _ _ _ h => h) (Or.inl ⟨by rfl, ?_⟩) ?_ ?_
                rotate_left
                ·intro w'
                 go_simp
                 with_reducible rfl
                rotate_left
                ·simp only [Act.put, List.setIfInBounds_toArray, List.set_cons_zero, List.set_cons_succ, i64_w, i32_w]
                 rfl
                refine pure_ (i := 27) (N := some 90) (v := ?_) (a' := ?_) #[true, true, true, true, true, true, true, true, true, true, true, true, true, true, true, true, true, true, true, true, true, true, true, true, true, true, true, true, false, false, false, false, false, false, false] rfl rfl (any_of HT_.out (by kernel_rfl)) (fun _ _ _ h => h) (Or.inl ⟨by rfl, ?_⟩) ?_ ?_
                rotate_left
                ·intro w'
                 go_simp
                 with_reducible rfl
                rotate_left
                ·simp only [Act.put, List.setIfInBounds_toArray, List.set_cons_zero, List.set_cons_succ, i64_w, i32_w]
                 rfl
                refine pure_ (i := 28) (N := some 91) (v := ?_) (a' := ?_) #[true, true, true, true, true, true, true, true, true, true, true, true, true, true, true, true, true, true, true, true, true, true, true, true, true, true, true, true, true, false, false, false, false, false, false] rfl rfl (any_of HT_.out (by kernel_rfl)) (fun _ _ _ h => h) (Or.inl ⟨by rfl, ?_⟩) ?_ ?_
                rotate_left
                ·intro w'
                 go_simp
                 with_reducible rfl
                rotate_left
                ·simp only [Act.put, List.setIfInBounds_toArray, List.set_cons_zero, List.set_cons_succ, i64_w, i32_w]
                 rfl
                refine take_ (i := 29) (N := some 92) (v := ?_) (a' := ?_) #[true, true, true, true, true, true, true, true, true, true, true, true, true, true, true, true, true, true, true, true, true, true, true, true, true, true, true, true, true, true, false, false, false, false, false] rfl rfl (take_ofW HT_.out HW_.out (by kernel_rfl)) (fun _ _ _ h => h) (Or.inl ⟨by rfl, ?_⟩) hHeld ?_ ?_
                rotate_left
                ·rintro w' ⟨s0, s1, s2, s3, s4, s5, s6, s7, s8, s9, s10, s11, s12, s13, s14, s15, s16, s17, s18, s19⟩
                 go_simp
                 with_reducible rfl
                rotate_left
                ·simp only [Act.put, List.setIfInBounds_toArray, List.set_cons_zero, List.set_cons_succ, i64_w, i32_w]
                 rfl
                refine take_ (i := 30) (N := some 93) (v := ?_) (a' := ?_) #[true, true, true, true, true, true, true, true, true, true, true, true, true, true, true, true, true, true, true, true, true, true, true, true, true, true, true, true, true, true, true, false, false, false, false] rfl rfl (take_ofW HT_.out HW_.out (by kernel_rfl)) (fun _ _ _ h => h) (Or.inl ⟨by rfl, ?_⟩) hHeld ?_ ?_
                rotate_left
                ·rintro w' ⟨s0, s1, s2, s3, s4, s5, s6, s7, s8, s9, s10, s11, s12, s13, s14, s15, s16, s17, s18, s19⟩
                 go_simp
                 with_reducible rfl
                rotate_left
                ·simp only [Act.put, List.setIfInBounds_toArray, List.set_cons_zero, List.set_cons_succ, i64_w, i32_w]
                 rfl
                refine take_ (i := 32) (N := some 95) (v := ?_) (a' := ?_) #[true, true, true, true, true, true, true, true, true, true, true, true, true, true, true, true, true, true, true, true, true, true, true, true, true, true, true, true, true, true, true, false, true, false, false] rfl rfl (take_ofW HT_.out HW_.out (by kernel_rfl)) (fun _ _ _ h => h) (Or.inl ⟨by rfl, ?_⟩) hHeld ?_ ?_
                rotate_left
                ·rintro w' ⟨s0, s1, s2, s3, s4, s5, s6, s7, s8, s9, s10, s11, s12, s13, s14, s15, s16, s17, s18, s19⟩
                 go_simp
                 with_reducible rfl
                rotate_left
                ·simp only [Act.put, List.setIfInBounds_toArray, List.set_cons_zero, List.set_cons_succ, i64_w, i32_w]
                 rfl
                refine one_ (i := 31) (N := some 94) #[true, true, true, true, true, true, true, true, true, true, true, true, true, true, true, true, true, true, true, true, true, true, true, true, true, true, true, true, true, true, true, true, true, false, false] rfl rfl (one_of HT_.out (by kernel_rfl)) (by decide) (fun K hK => ?_)
                refine goes_ Try.func27 (by kernel_rfl) rfl #[.agg #[.int .i64 t283, .int .i64 t284, .int .i64 t285, .int .i64 t286], .agg #[.int .i64 t299, .int .i64 t300, .int .i64 t301, .int .i64 t302]] (by rfl) rfl rfl (by (try simp only [List.map_toArray, List.map_cons, List.map_nil]); first | done | rfl | (simp only [List.length_drop, List.length_take]; rfl)) ?_
                with_reducible refine (mapmakerref08_Join.calls t283 t284 t285 t286 t299 t300 t301 t302 t308 t309 t310 t311 _ A40.out).mono ?_
                rintro e w57 ⟨rfl, hb⟩
                have HS14_ := (hb.cell (World.block_lt_of_cell? _ _ (hHeld.2.2.2.2.2.2.2.2.2.2.2.2.2.2.1))).trans (hHeld.2.2.2.2.2.2.2.2.2.2.2.2.2.2.1)
                have HS15_ := (hb.cell (World.block_lt_of_cell? _ _ (hHeld.2.2.2.2.2.2.2.2.2.2.2.2.2.2.2.1))).trans (hHeld.2.2.2.2.2.2.2.2.2.2.2.2.2.2.2.1)
                have HS16_ := (hb.cell (World.block_lt_of_cell? _ _ (hHeld.2.2.2.2.2.2.2.2.2.2.2.2.2.2.2.2.1))).trans (hHeld.2.2.2.2.2.2.2.2.2.2.2.2.2.2.2.2.1)
                have HS17_ := (hb.cell (World.block_lt_of_cell? _ _ (hHeld.2.2.2.2.2.2.2.2.2.2.2.2.2.2.2.2.2.1))).trans (hHeld.2.2.2.2.2.2.2.2.2.2.2.2.2.2.2.2.2.1)
                have HS18_ := (hb.cell (World.block_lt_of_cell? _ _ (hHeld.2.2.2.2.2.2.2.2.2.2.2.2.2.2.2.2.2.2.1))).trans (hHeld.2.2.2.2.2.2.2.2.2.2.2.2.2.2.2.2.2.2.1)
                have HS19_ := (hb.cell (World.block_lt_of_cell? _ _ (hHeld.2.2.2.2.2.2.2.2.2.2.2.2.2.2.2.2.2.2.2))).trans (hHeld.2.2.2.2.2.2.2.2.2.2.2.2.2.2.2.2.2.2.2)
                refine ⟨_, rfl, ?_⟩
                have n0_ := Aside0.mk (Kd.R_below (by (with_reducible repeat (first | apply Kd.R_alloc | apply Kd.R_drewN | apply Kd.R_drew)); exact HO_3.out) hb)
                have n1_ := Aside0.mk (blk_below (by (with_reducible repeat first | apply blk_drewN | apply blk_drew | apply blk_alloc); exact BK279.out) hb)
                have n2_ := Aside0.mk (blk_below (by (with_reducible repeat first | apply blk_drewN | apply blk_drew | apply blk_alloc); exact BK288.out) hb)
                have n3_ := Aside0.mk (blk_below (by (with_reducible repeat first | apply blk_drewN | apply blk_drew | apply blk_alloc); exact BK297.out) hb)
                have n4_ := Aside0.mk (blk_below (by (with_reducible repeat first | apply blk_drewN | apply blk_drew | apply blk_alloc); exact BK304.out) hb)
                have n5_ := Aside0.mk (below_step (by repeat (first | (with_reducible first | exact HB.out | apply below_alloc | apply pw_below_drewN | apply below_drew1 | refine below_set ?_ GE279.out | refine below_set ?_ GE288.out | refine below_set ?_ GE297.out | refine below_set ?_ GE304.out) | exact HB.out)) hb)
                clear HO_3 BK279 BK288 BK297 BK304 HB
                have HO_3 := n0_; have BK279 := n1_; have BK288 := n2_; have BK297 := n3_; have BK304 := n4_; have HB := n5_
                clear n0_ n1_ n2_ n3_ n4_ n5_
                (try clear hb)
                (try clear hb2)
                (try clear hk)
                (try clear hi)
                refine hK.out _ _ ⟨(blk_cell BK297.out 0).trans rfl, (blk_cell BK297.out 1).trans rfl, (blk_cell BK297.out 2).trans rfl, (blk_cell BK279.out 0).trans rfl, (blk_cell BK279.out 1).trans rfl, (blk_cell BK279.out 2).trans rfl, (blk_cell BK288.out 0).trans rfl, (blk_cell BK288.out 1).trans rfl, (blk_cell BK288.out 2).trans rfl, (blk_cell BK288.out 3).trans rfl, (blk_cell BK304.out 0).trans rfl, (blk_cell BK304.out 1).trans rfl, (blk_cell BK304.out 2).trans rfl, (blk_cell BK304.out 3).trans rfl, HS14_, HS15_, HS16_, HS17_, HS18_, HS19_⟩ (fun hHeld => ?_)
                clear hK K
                refine norm_ (a' := ?_) ?_ ?_
                rotate_left
                ·show Act.put _ (some 94) _ = _
                 simp only [Act.put, List.setIfInBounds_toArray, List.set_cons_zero, List.set_cons_succ, i64_w, i32_w]
                 rfl
                refine pure_ (i := 33) (N := some 96) (v := ?_) (a' := ?_) #[true, true, true, true, true, true, true, true, true, true, true, true, true, true, true, true, true, true, true, true, true, true, true, true, true, true, true, true, true, true, true, true, true, true, false] rfl rfl (any_of HT_.out (by kernel_rfl)) (fun _ _ _ h => h) (Or.inl ⟨by rfl, ?_⟩) ?_ ?_
                rotate_left
                ·intro w'
                 go_simp
                 with_reducible rfl
                rotate_left
                ·simp only [Act.put, List.setIfInBounds_toArray, List.set_cons_zero, List.set_cons_succ, i64_w, i32_w]
                 rfl
                refine pure_ (i := 34) (N := some 97) (v := ?_) (a' := ?_) #[true, true, true, true, true, true, true, true, true, true, true, true, true, true, true, true, true, true, true, true, true, true, true, true, true, true, true, true, true, true, true, true, true, true, true] rfl rfl (any_of HT_.out (by kernel_rfl)) (fun _ _ _ h => h) (Or.inl ⟨by rfl, ?_⟩) ?_ ?_
                rotate_left
                ·intro w'
                 go_simp
                 with_reducible rfl
                rotate_left
                ·simp only [Act.put, List.setIfInBounds_toArray, List.set_cons_zero, List.set_cons_succ, i64_w, i32_w]
                 rfl
                refine done_ (done_of HT_.out (by kernel_rfl)) ?_
                have hcz58_0 : w57.cell? ⟨gb304, 0, none⟩ = some (.int .i64 t299) := (blk_cell BK304.out 0).trans rfl
                have hcz58_1 : w57.cell? ⟨gb304, 1, none⟩ = some (.int .i64 t300) := (blk_cell BK304.out 1).trans rfl
                have hcz58_2 : w57.cell? ⟨gb304, 2, none⟩ = some (.int .i64 t301) := (blk_cell BK304.out 2).trans rfl
                have hcz58_3 : w57.cell? ⟨gb304, 3, none⟩ = some (.int .i64 t302) := (blk_cell BK304.out 3).trans rfl
                have hfz58_0 := blk_frozen BK304.out 0
                have hfz58_1 := blk_frozen BK304.out 1
                have hfz58_2 := blk_frozen BK304.out 2
                have hfz58_3 := blk_frozen BK304.out 3
                try go_wp2
                go_roundg k2
                case measure => have := HJ3.out; have := HK2.out; omega
                case rel => exact ⟨(wrap64 (x6_2 + (wrap64 ((wrap64 (t301 - t299)) * (wrap64 (t302 - t300)))))), (wrap64 (x7_2 + 1)), (by first | rfl | (simp; done) | (simp [*]; done)), (by first | rfl | (simp; done) | (simp [*]; done)), H', ⟨by have := HJ3.out; have := HK2.out; omega⟩, ⟨by (with_reducible repeat (first | apply Kd.R_alloc | apply Kd.R_drewN | apply Kd.R_drew)); exact Kd.R_mono HO_3.out (fun _ hk => hk.1)⟩, ⟨by (with_reducible repeat first | apply blk_drewN | apply blk_drew | apply blk_alloc); exact BK279.out⟩, ⟨by (with_reducible repeat first | apply blk_drewN | apply blk_drew | apply blk_alloc); exact BK288.out⟩, ⟨by repeat (first | (with_reducible first | exact HB.out | apply below_alloc | apply pw_below_drewN | apply below_drew1 | refine below_set ?_ GE279.out | refine below_set ?_ GE288.out | refine below_set ?_ GE297.out | refine below_set ?_ GE304.out) | exact HB.out)⟩⟩
              ·replace c39 := Bool.eq_false_iff.mpr c39
               subst c39
               have H1 : (none) = some r := by rw [if_neg (show ¬ (false = true) by decide)] at H; exact H
               clear H
               have H := H1
               clear H1
               exact absurd H (by simp)
             ·rw [if_neg c37] at H
              exact absurd H (by simp)
            ·rw [if_neg c36] at H
             exact absurd H (by simp)
           ·rw [if_neg c34] at H
            have c34b0 : decide (0 < x7_2) = false := decide_eq_false c34
            clear c34
            replace H := Option.bind_eq_some_iff.mp H
            obtain ⟨⟨t312, t313, t314, t315⟩, A590, H⟩ := H
            replace H : (if (!(t312 == t283) || (!(t313 == t284) || (!(t314 == t285) || (!(t315 == t286))))) = true then (none) else (mapmakerlaw28_TilegridTree.l0 k2 t280 (wrap64 (x6_2 + (wrap64 ((wrap64 (t301 - t299)) * (wrap64 (t302 - t300)))))) (wrap64 (x7_2 + 1)) a0_0 a0_1 a0_2 t283 t284 t285 t286)) = some r := H
            have A59 := Aside0.mk A590
            clear A590
            by_cases c60 : (!(t312 == t283) || (!(t313 == t284) || (!(t314 == t285) || (!(t315 == t286))))) = true
            ·rw [if_pos c60] at H
             exact absurd H (by simp)
            ·rw [if_neg c60] at H
             have c60b0 : (!(t312 == t283) || (!(t313 == t284) || (!(t314 == t285) || (!(t315 == t286))))) = false := by simpa using c60
             clear c60
             have H' := Aside0.mk H
             clear H
             obtain ⟨Ao61, co61, eo61⟩ := Kd.R_slice HO_3.out
             subst eo61
             have p292 : 0 ≤ (x7_2 : Int) := of_decide_eq_true (by first | (with_reducible assumption) | assumption)
             have q292 : x7_2 < (t280.length : Int) := of_decide_eq_true (by first | (with_reducible assumption) | assumption)
             obtain ⟨ad292, e292, hx292_0, hx292_1, hx292_2⟩ := at_T30 (Kd.R_reads' HO_3.out).2.2 x7_2 p292 q292
             cases e292
             replace p292 := eq_true p292
             replace q292 := eq_true q292
             try go_wp2_with (first | ((with_reducible refine gate_callee (f := 25) rfl ?_); refine goesL_ (some 52) rfl rfl Try.func25 (by kernel_rfl) rfl #[.agg #[.int .i64 ((rd_T30 t280 x7_2).f0), .int .i64 ((rd_T30 t280 x7_2).f1), .int .i64 ((rd_T30 t280 x7_2).f2)]] rfl (by (try simp only [List.map_toArray, List.map_cons, List.map_nil]); first | done | rfl | (simp only [List.length_drop, List.length_take]; rfl)) ?_; (with_reducible refine (tilegrid_Parent.calls ((rd_T30 t280 x7_2).f0) ((rd_T30 t280 x7_2).f1) ((rd_T30 t280 x7_2).f2) t293 t294 t295 true _ A29.out).mono ?_); rintro e w62 ⟨rfl, hb⟩; refine ⟨_, rfl, ?_⟩; have n0_ := Aside0.mk (Kd.R_below (by (with_reducible repeat (first | apply Kd.R_alloc | apply Kd.R_drewN | apply Kd.R_drew)); exact HO_3.out) hb); have n1_ := Aside0.mk (blk_below (by (with_reducible repeat first | apply blk_drewN | apply blk_drew | apply blk_alloc); exact BK279.out) hb); have n2_ := Aside0.mk (blk_below (by (with_reducible repeat first | apply blk_drewN | apply blk_drew | apply blk_alloc); exact BK288.out) hb); have n3_ := Aside0.mk (below_step (by repeat (first | (with_reducible first | exact HB.out | apply below_alloc | apply pw_below_drewN | apply below_drew1 | refine below_set ?_ GE279.out | refine below_set ?_ GE288.out) | exact HB.out)) hb); clear HO_3 BK279 BK288 HB; have HO_3 := n0_; have BK279 := n1_; have BK288 := n2_; have HB := n3_; clear n0_ n1_ n2_ n3_; (try clear hb); (try clear hb2); (try clear hk); (try clear hi)) | ((with_reducible refine gate_dst (N := 8) rfl ?_); (try (refine gate_guard (by rfl) ?_; dsimp only)); refine box_event ?hg (N := 8) ?hd (cs := #[.int .i64 0, .int .i64 0, .int .i64 0]) (t := 30) ?hr ?_; (case hd => rfl); (case hg => rfl); (case hr => first | (go_simp; done) | (go_simp; rfl)); intro gb297 hg w63 hbox hb; have n0_ := Aside0.mk (Kd.R_below (Kd.R_elderB (by (with_reducible repeat (first | apply Kd.R_alloc | apply Kd.R_drewN | apply Kd.R_drew)); exact HO_3.out) gb297 (Nat.le_of_eq hg.symm)) hb); have n1_ := Aside0.mk (blk_below (by (with_reducible repeat first | apply blk_drewN | apply blk_drew | apply blk_alloc); exact BK279.out) hb); have n2_ := Aside0.mk (blk_below (by (with_reducible repeat first | apply blk_drewN | apply blk_drew | apply blk_alloc); exact BK288.out) hb); have n3_ := Aside0.mk (below_step (by repeat (first | (with_reducible first | exact HB.out | apply below_alloc | apply pw_below_drewN | apply below_drew1 | refine below_set ?_ GE279.out | refine below_set ?_ GE288.out) | exact HB.out)) hb); have n4_ := Aside0.mk (hbox); have n5_ := Aside0.mk ((by rw [hg]; exact (below_size (by repeat (first | (with_reducible first | exact HB.out | apply below_alloc | apply pw_below_drewN | apply below_drew1 | refine below_set ?_ GE279.out | refine below_set ?_ GE288.out) | exact HB.out))) : w.heap.size ≤ gb297)); have n6_ := n5_; have n7_ := Aside0.mk ((by rw [hg]; exact Nat.ne_of_lt (blk_lt (by (with_reducible repeat first | apply blk_drewN | apply blk_drew | apply blk_alloc); exact BK279.out)) : gb279 ≠ gb297)); have n8_ : Aside0 (gb297 ≠ gb279) := ⟨Ne.symm n7_.out⟩; have n9_ := Aside0.mk ((by rw [hg]; exact Nat.ne_of_lt (blk_lt (by (with_reducible repeat first | apply blk_drewN | apply blk_drew | apply blk_alloc); exact BK288.out)) : gb288 ≠ gb297)); have n10_ : Aside0 (gb297 ≠ gb288) := ⟨Ne.symm n9_.out⟩; clear HO_3 BK279 BK288 HB; have HO_3 := n0_; have BK279 := n1_; have BK288 := n2_; have HB := n3_; have BK297 := n4_; have GW297 := n5_; have GE297 := n6_; have NB279_297 := n7_; have NB297_279 := n8_; have NB288_297 := n9_; have NB297_288 := n10_; clear n0_ n1_ n2_ n3_ n4_ n5_ n6_ n7_ n8_ n9_ n10_ hb hbox hg; have hnb64 := NB297_279.out; have hnc64 := NB279_297.out; have hnb65 := NB297_288.out; have hnc65 := NB288_297.out; have hcz66_0 : w63.cell? ⟨gb297, 0, none⟩ = some (.int .i64 0) := (blk_cell BK297.out 0).trans rfl; have hcz66_1 : w63.cell? ⟨gb297, 1, none⟩ = some (.int .i64 0) := (blk_cell BK297.out 1).trans rfl; have hcz66_2 : w63.cell? ⟨gb297, 2, none⟩ = some (.int .i64 0) := (blk_cell BK297.out 2).trans rfl; have hfz66_0 := blk_frozen BK297.out 0; have hfz66_1 := blk_frozen BK297.out 1; have hfz66_2 := blk_frozen BK297.out 2; have p298 : 0 ≤ (x7_2 : Int) := of_decide_eq_true (by first | (with_reducible assumption) | assumption); have q298 : x7_2 < (t280.length : Int) := of_decide_eq_true (by first | (with_reducible assumption) | assumption); obtain ⟨ad298, e298, hx298_0, hx298_1, hx298_2⟩ := at_T30 (Kd.R_reads' HO_3.out).2.2 x7_2 p298 q298; obtain rfl : ad292 = ad298 := (by injection e298); have hn298_0 : ad292.block ≠ gb297 := (by have h_ := HO_3.out.1 _ rfl; first | exact h_.2 | exact h_.2.2 | exact h_.1.2); have hn298_1 : ad292.block ≠ gb297 := (by have h_ := HO_3.out.1 _ rfl; first | exact h_.2 | exact h_.2.2 | exact h_.1.2); have hn298_2 : ad292.block ≠ gb297 := (by have h_ := HO_3.out.1 _ rfl; first | exact h_.2 | exact h_.2.2 | exact h_.1.2); replace hx298_0 := (cell_far (p := ⟨gb297, 0, none⟩) (by first | (rw [add_block]; exact hn298_0) | (show (Addr.add _ _).block ≠ _; rw [add_block]; exact hn298_0) | exact hn298_0) (.int .i64 t293)).trans hx298_0; replace hx298_1 := (cell_far (p := ⟨gb297, 0, none⟩) (by first | (rw [add_block]; exact hn298_0) | (show (Addr.add _ _).block ≠ _; rw [add_block]; exact hn298_0) | exact hn298_0) (.int .i64 t293)).trans hx298_1; replace hx298_2 := (cell_far (p := ⟨gb297, 0, none⟩) (by first | (rw [add_block]; exact hn298_0) | (show (Addr.add _ _).block ≠ _; rw [add_block]; exact hn298_0) | exact hn298_0) (.int .i64 t293)).trans hx298_2; replace hx298_0 := (cell_far (p := ⟨gb297, 1, none⟩) (by first | (rw [add_block]; exact hn298_1) | (show (Addr.add _ _).block ≠ _; rw [add_block]; exact hn298_1) | exact hn298_1) (.int .i64 t294)).trans hx298_0; replace hx298_1 := (cell_far (p := ⟨gb297, 1, none⟩) (by first | (rw [add_block]; exact hn298_1) | (show (Addr.add _ _).block ≠ _; rw [add_block]; exact hn298_1) | exact hn298_1) (.int .i64 t294)).trans hx298_1; replace hx298_2 := (cell_far (p := ⟨gb297, 1, none⟩) (by first | (rw [add_block]; exact hn298_1) | (show (Addr.add _ _).block ≠ _; rw [add_block]; exact hn298_1) | exact hn298_1) (.int .i64 t294)).trans hx298_2; replace hx298_0 := (cell_far (p := ⟨gb297, 2, none⟩) (by first | (rw [add_block]; exact hn298_2) | (show (Addr.add _ _).block ≠ _; rw [add_block]; exact hn298_2) | exact hn298_2) (.int .i64 t295)).trans hx298_0; replace hx298_1 := (cell_far (p := ⟨gb297, 2, none⟩) (by first | (rw [add_block]; exact hn298_2) | (show (Addr.add _ _).block ≠ _; rw [add_block]; exact hn298_2) | exact hn298_2) (.int .i64 t295)).trans hx298_1; replace hx298_2 := (cell_far (p := ⟨gb297, 2, none⟩) (by first | (rw [add_block]; exact hn298_2) | (show (Addr.add _ _).block ≠ _; rw [add_block]; exact hn298_2) | exact hn298_2) (.int .i64 t295)).trans hx298_2; clear hn298_0 hn298_1 hn298_2; replace p298 := eq_true p298; replace q298 := eq_true q298) | ((with_reducible refine gate_callee (f := 13) rfl ?_); refine goesL_ (some 60) rfl rfl Try.func13 (by kernel_rfl) rfl #[.agg #[.int .i64 ((rd_T30 t280 x7_2).f0), .int .i64 ((rd_T30 t280 x7_2).f1), .int .i64 ((rd_T30 t280 x7_2).f2)]] rfl (by (try simp only [List.map_toArray, List.map_cons, List.map_nil]); first | done | rfl | (simp only [List.length_drop, List.length_take]; rfl)) ?_; (with_reducible refine (tilegrid_Box.calls ((rd_T30 t280 x7_2).f0) ((rd_T30 t280 x7_2).f1) ((rd_T30 t280 x7_2).f2) t299 t300 t301 t302 t303 _ A30.out).mono ?_); rintro e w67 ⟨rfl, hb⟩; refine ⟨_, rfl, ?_⟩; have n0_ := Aside0.mk (Kd.R_below (by (with_reducible repeat (first | apply Kd.R_alloc | apply Kd.R_drewN | apply Kd.R_drew)); exact (Kd.R_mono (Kd.R_far (p := ⟨gb297, 2, none⟩) (Kd.R_far (p := ⟨gb297, 1, none⟩) (Kd.R_far (p := ⟨gb297, 0, none⟩) (Kd.R_mono HO_3.out (fun k_ hk => (⟨hk, hk.2⟩ : _ ∧ k_ ≠ gb297))) (fun _ hk => hk.2) (.int .i64 t293)) (fun _ hk => hk.2) (.int .i64 t294)) (fun _ hk => hk.2) (.int .i64 t295)) (fun _ h_ => h_.1))) hb); have n1_ := Aside0.mk (blk_below (g := gb279) (o := .cells #[.int .i64 a0_0, .int .i64 a0_1, .int .i64 a0_2] 30 (0, 0)) (by (with_reducible repeat first | apply blk_drewN | apply blk_drew | apply blk_alloc); refine blk_far ?_ NB279_297.out _; (with_reducible repeat first | apply blk_drewN | apply blk_drew | apply blk_alloc); refine blk_far ?_ NB279_297.out _; (with_reducible repeat first | apply blk_drewN | apply blk_drew | apply blk_alloc); refine blk_far ?_ NB279_297.out _; (with_reducible repeat first | apply blk_drewN | apply blk_drew | apply blk_alloc); exact BK279.out) hb); have n2_ := Aside0.mk (blk_below (g := gb288) (o := .cells #[.int .i64 t283, .int .i64 t284, .int .i64 t285, .int .i64 t286] 23 (0, 0)) (by (with_reducible repeat first | apply blk_drewN | apply blk_drew | apply blk_alloc); refine blk_far ?_ NB288_297.out _; (with_reducible repeat first | apply blk_drewN | apply blk_drew | apply blk_alloc); refine blk_far ?_ NB288_297.out _; (with_reducible repeat first | apply blk_drewN | apply blk_drew | apply blk_alloc); refine blk_far ?_ NB288_297.out _; (with_reducible repeat first | apply blk_drewN | apply blk_drew | apply blk_alloc); exact BK288.out) hb); have n3_ := Aside0.mk (blk_below (g := gb297) (o := .cells #[.int .i64 t293, .int .i64 t294, .int .i64 t295] 30 (0, 0)) (by (with_reducible repeat first | apply blk_drewN | apply blk_drew | apply blk_alloc); refine blk_put (cs := #[.int .i64 t293, .int .i64 t294, .int .i64 0]) ?_ 2 _ rfl; (with_reducible repeat first | apply blk_drewN | apply blk_drew | apply blk_alloc); refine blk_put (cs := #[.int .i64 t293, .int .i64 0, .int .i64 0]) ?_ 1 _ rfl; (with_reducible repeat first | apply blk_drewN | apply blk_drew | apply blk_alloc); refine blk_put (cs := #[.int .i64 0, .int .i64 0, .int .i64 0]) ?_ 0 _ rfl; (with_reducible repeat first | apply blk_drewN | apply blk_drew | apply blk_alloc); exact BK297.out) hb); have n4_ := Aside0.mk (below_step (by repeat (first | (with_reducible first | exact HB.out | apply below_alloc | apply pw_below_drewN | apply below_drew1 | refine below_set ?_ GE279.out | refine below_set ?_ GE288.out | refine below_set ?_ GE297.out) | exact HB.out)) hb); clear HO_3 BK279 BK288 BK297 HB; have HO_3 := n0_; have BK279 := n1_; have BK288 := n2_; have BK297 := n3_; have HB := n4_; clear n0_ n1_ n2_ n3_ n4_; (try clear hb); (try clear hb2); (try clear hk); (try clear hi)) | ((with_reducible refine gate_dst (N := 10) rfl ?_); (try (refine gate_guard (by rfl) ?_; dsimp only)); refine box_event ?hg (N := 10) ?hd (cs := #[.int .i64 0, .int .i64 0, .int .i64 0, .int .i64 0]) (t := 23) ?hr ?_; (case hd => rfl); (case hg => rfl); (case hr => first | (go_simp; done) | (go_simp; rfl)); intro gb304 hg w68 hbox hb; have n0_ := Aside0.mk (Kd.R_below (by (with_reducible repeat (first | apply Kd.R_alloc | apply Kd.R_drewN | apply Kd.R_drew)); exact HO_3.out) hb); have n1_ := Aside0.mk (blk_below (by (with_reducible repeat first | apply blk_drewN | apply blk_drew | apply blk_alloc); exact BK279.out) hb); have n2_ := Aside0.mk (blk_below (by (with_reducible repeat first | apply blk_drewN | apply blk_drew | apply blk_alloc); exact BK288.out) hb); have n3_ := Aside0.mk (blk_below (by (with_reducible repeat first | apply blk_drewN | apply blk_drew | apply blk_alloc); exact BK297.out) hb); have n4_ := Aside0.mk (below_step (by repeat (first | (with_reducible first | exact HB.out | apply below_alloc | apply pw_below_drewN | apply below_drew1 | refine below_set ?_ GE279.out | refine below_set ?_ GE288.out | refine below_set ?_ GE297.out) | exact HB.out)) hb); have n5_ := Aside0.mk (hbox); have n6_ := Aside0.mk ((by rw [hg]; exact (below_size (by repeat (first | (with_reducible first | exact HB.out | apply below_alloc | apply pw_below_drewN | apply below_drew1 | refine below_set ?_ GE279.out | refine below_set ?_ GE288.out | refine below_set ?_ GE297.out) | exact HB.out))) : w.heap.size ≤ gb304)); have n7_ := n6_; have n8_ := Aside0.mk ((by rw [hg]; exact Nat.ne_of_lt (blk_lt (by (with_reducible repeat first | apply blk_drewN | apply blk_drew | apply blk_alloc); exact BK279.out)) : gb279 ≠ gb304)); have n9_ : Aside0 (gb304 ≠ gb279) := ⟨Ne.symm n8_.out⟩; have n10_ := Aside0.mk ((by rw [hg]; exact Nat.ne_of_lt (blk_lt (by (with_reducible repeat first | apply blk_drewN | apply blk_drew | apply blk_alloc); exact BK288.out)) : gb288 ≠ gb304)); have n11_ : Aside0 (gb304 ≠ gb288) := ⟨Ne.symm n10_.out⟩; have n12_ := Aside0.mk ((by rw [hg]; exact Nat.ne_of_lt (blk_lt (by (with_reducible repeat first | apply blk_drewN | apply blk_drew | apply blk_alloc); exact BK297.out)) : gb297 ≠ gb304)); have n13_ : Aside0 (gb304 ≠ gb297) := ⟨Ne.symm n12_.out⟩; clear HO_3 BK279 BK288 BK297 HB; have HO_3 := n0_; have BK279 := n1_; have BK288 := n2_; have BK297 := n3_; have HB := n4_; have BK304 := n5_; have GW304 := n6_; have GE304 := n7_; have NB279_304 := n8_; have NB304_279 := n9_; have NB288_304 := n10_; have NB304_288 := n11_; have NB297_304 := n12_; have NB304_297 := n13_; clear n0_ n1_ n2_ n3_ n4_ n5_ n6_ n7_ n8_ n9_ n10_ n11_ n12_ n13_ hb hbox hg; have hnb69 := NB304_279.out; have hnc69 := NB279_304.out; have hnb70 := NB304_288.out; have hnc70 := NB288_304.out; have hnb71 := NB304_297.out; have hnc71 := NB297_304.out; have hcz72_0 : w68.cell? ⟨gb304, 0, none⟩ = some (.int .i64 0) := (blk_cell BK304.out 0).trans rfl; have hcz72_1 : w68.cell? ⟨gb304, 1, none⟩ = some (.int .i64 0) := (blk_cell BK304.out 1).trans rfl; have hcz72_2 : w68.cell? ⟨gb304, 2, none⟩ = some (.int .i64 0) := (blk_cell BK304.out 2).trans rfl; have hcz72_3 : w68.cell? ⟨gb304, 3, none⟩ = some (.int .i64 0) := (blk_cell BK304.out 3).trans rfl; have hfz72_0 := blk_frozen BK304.out 0; have hfz72_1 := blk_frozen BK304.out 1; have hfz72_2 := blk_frozen BK304.out 2; have hfz72_3 := blk_frozen BK304.out 3))
             have n0_ : Aside0 (Kd.R k30 30 ((((w68.setCell ⟨gb304, 0, none⟩ (.int .i64 t299)).setCell ⟨gb304, 1, none⟩ (.int .i64 t300)).setCell ⟨gb304, 2, none⟩ (.int .i64 t301)).setCell ⟨gb304, 3, none⟩ (.int .i64 t302)) w.heap.size (fun k_ => k_ ≠ gb279 ∧ k_ ≠ gb297) (.slice (some ad292) t280.length co61) t280) := ⟨by (with_reducible repeat (first | apply Kd.R_alloc | apply Kd.R_drewN | apply Kd.R_drew)); exact Kd.R_mono (Kd.R_far (p := ⟨gb304, 3, none⟩) (Kd.R_far (p := ⟨gb304, 2, none⟩) (Kd.R_far (p := ⟨gb304, 1, none⟩) (Kd.R_far (p := ⟨gb304, 0, none⟩) (Kd.R_types HO_3.out BK304.out (by decide)) (fun _ hk => hk.2) (.int .i64 t299)) (fun _ hk => hk.2) (.int .i64 t300)) (fun _ hk => hk.2) (.int .i64 t301)) (fun _ hk => hk.2) (.int .i64 t302)) (fun _ hk => ⟨hk.1.1, hk.1.2⟩)⟩
             have n1_ : Aside0 (((((w68.setCell ⟨gb304, 0, none⟩ (.int .i64 t299)).setCell ⟨gb304, 1, none⟩ (.int .i64 t300)).setCell ⟨gb304, 2, none⟩ (.int .i64 t301)).setCell ⟨gb304, 3, none⟩ (.int .i64 t302)).heap[gb279]? = some (.cells #[.int .i64 a0_0, .int .i64 a0_1, .int .i64 a0_2] 30 (0, 0))) := ⟨by (with_reducible repeat first | apply blk_drewN | apply blk_drew | apply blk_alloc); refine blk_far ?_ NB279_304.out _; (with_reducible repeat first | apply blk_drewN | apply blk_drew | apply blk_alloc); refine blk_far ?_ NB279_304.out _; (with_reducible repeat first | apply blk_drewN | apply blk_drew | apply blk_alloc); refine blk_far ?_ NB279_304.out _; (with_reducible repeat first | apply blk_drewN | apply blk_drew | apply blk_alloc); refine blk_far ?_ NB279_304.out _; (with_reducible repeat first | apply blk_drewN | apply blk_drew | apply blk_alloc); exact BK279.out⟩
             have n2_ : Aside0 (((((w68.setCell ⟨gb304, 0, none⟩ (.int .i64 t299)).setCell ⟨gb304, 1, none⟩ (.int .i64 t300)).setCell ⟨gb304, 2, none⟩ (.int .i64 t301)).setCell ⟨gb304, 3, none⟩ (.int .i64 t302)).heap[gb288]? = some (.cells #[.int .i64 t283, .int .i64 t284, .int .i64 t285, .int .i64 t286] 23 (0, 0))) := ⟨by (with_reducible repeat first | apply blk_drewN | apply blk_drew | apply blk_alloc); refine blk_far ?_ NB288_304.out _; (with_reducible repeat first | apply blk_drewN | apply blk_drew | apply blk_alloc); refine blk_far ?_ NB288_304.out _; (with_reducible repeat first | apply blk_drewN | apply blk_drew | apply blk_alloc); refine blk_far ?_ NB288_304.out _; (with_reducible repeat first | apply blk_drewN | apply blk_drew | apply blk_alloc); refine blk_far ?_ NB288_304.out _; (with_reducible repeat first | apply blk_drewN | apply blk_drew | apply blk_alloc); exact BK288.out⟩
             have n3_ : Aside0 (((((w68.setCell ⟨gb304, 0, none⟩ (.int .i64 t299)).setCell ⟨gb304, 1, none⟩ (.int .i64 t300)).setCell ⟨gb304, 2, none⟩ (.int .i64 t301)).setCell ⟨gb304, 3, none⟩ (.int .i64 t302)).heap[gb297]? = some (.cells #[.int .i64 t293, .int .i64 t294, .int .i64 t295] 30 (0, 0))) := ⟨by (with_reducible repeat first | apply blk_drewN | apply blk_drew | apply blk_alloc); refine blk_far ?_ NB297_304.out _; (with_reducible repeat first | apply blk_drewN | apply blk_drew | apply blk_alloc); refine blk_far ?_ NB297_304.out _; (with_reducible repeat first | apply blk_drewN | apply blk_drew | apply blk_alloc); refine blk_far ?_ NB297_304.out _; (with_reducible repeat first | apply blk_drewN | apply blk_drew | apply blk_alloc); refine blk_far ?_ NB297_304.out _; (with_reducible repeat first | apply blk_drewN | apply blk_drew | apply blk_alloc); exact BK297.out⟩
             have n4_ : Aside0 (((((w68.setCell ⟨gb304, 0, none⟩ (.int .i64 t299)).setCell ⟨gb304, 1, none⟩ (.int .i64 t300)).setCell ⟨gb304, 2, none⟩ (.int .i64 t301)).setCell ⟨gb304, 3, none⟩ (.int .i64 t302)).heap[gb304]? = some (.cells #[.int .i64 t299, .int .i64 t300, .int .i64 t301, .int .i64 t302] 23 (0, 0))) := ⟨by (with_reducible repeat first | apply blk_drewN | apply blk_drew | apply blk_alloc); refine blk_put (cs := #[.int .i64 t299, .int .i64 t300, .int .i64 t301, .int .i64 0]) ?_ 3 _ rfl; (with_reducible repeat first | apply blk_drewN | apply blk_drew | apply blk_alloc); refine blk_put (cs := #[.int .i64 t299, .int .i64 t300, .int .i64 0, .int .i64 0]) ?_ 2 _ rfl; (with_reducible repeat first | apply blk_drewN | apply blk_drew | apply blk_alloc); refine blk_put (cs := #[.int .i64 t299, .int .i64 0, .int .i64 0, .int .i64 0]) ?_ 1 _ rfl; (with_reducible repeat first | apply blk_drewN | apply blk_drew | apply blk_alloc); refine blk_put (cs := #[.int .i64 0, .int .i64 0, .int .i64 0, .int .i64 0]) ?_ 0 _ rfl; (with_reducible repeat first | apply blk_drewN | apply blk_drew | apply blk_alloc); exact BK304.out⟩
             have n5_ : Aside0 (Below w.heap.size w ((((w68.setCell ⟨gb304, 0, none⟩ (.int .i64 t299)).setCell ⟨gb304, 1, none⟩ (.int .i64 t300)).setCell ⟨gb304, 2, none⟩ (.int .i64 t301)).setCell ⟨gb304, 3, none⟩ (.int .i64 t302))) := ⟨by repeat (first | (with_reducible first | exact HB.out | apply below_alloc | apply pw_below_drewN | apply below_drew1 | refine below_set ?_ GE279.out | refine below_set ?_ GE288.out | refine below_set ?_ GE297.out | refine below_set ?_ GE304.out) | exact HB.out)⟩
             (try clear HO_3)
             (try clear BK279)
             (try clear BK288)
             (try clear BK297)
             (try clear BK304)
             (try clear HB)
             generalize ((((w68.setCell ⟨gb304, 0, none⟩ (.int .i64 t299)).setCell ⟨gb304, 1, none⟩ (.int .i64 t300)).setCell ⟨gb304, 2, none⟩ (.int .i64 t301)).setCell ⟨gb304, 3, none⟩ (.int .i64 t302)) = w73 at n0_ n1_ n2_ n3_ n4_ n5_ ⊢
             have HO_3 := n0_; have BK279 := n1_; have BK288 := n2_; have BK297 := n3_; have BK304 := n4_; have HB := n5_
             clear n0_ n1_ n2_ n3_ n4_ n5_
             have n0_ := Aside0.mk (Kd.R_drew HO_3.out)
             have n1_ := Aside0.mk (blk_drew BK279.out)
             have n2_ := Aside0.mk (blk_drew BK288.out)
             have n3_ := Aside0.mk (blk_drew BK297.out)
             have n4_ := Aside0.mk (blk_drew BK304.out)
             have n5_ := Aside0.mk (below_drew1 HB.out)
             clear HO_3 BK279 BK288 BK297 BK304 HB
             have HO_3 := n0_; have BK279 := n1_; have BK288 := n2_; have BK297 := n3_; have BK304 := n4_; have HB := n5_
             clear n0_ n1_ n2_ n3_ n4_ n5_
             refine start_ (n := 35) (S := fun w' => w'.cell? ⟨gb297, 0, none⟩ = some (.int .i64 t293) ∧ w'.cell? ⟨gb297, 1, none⟩ = some (.int .i64 t294) ∧ w'.cell? ⟨gb297, 2, none⟩ = some (.int .i64 t295) ∧ w'.cell? ⟨gb279, 0, none⟩ = some (.int .i64 a0_0) ∧ w'.cell? ⟨gb279, 1, none⟩ = some (.int .i64 a0_1) ∧ w'.cell? ⟨gb279, 2, none⟩ = some (.int .i64 a0_2) ∧ w'.cell? ⟨gb288, 0, none⟩ = some (.int .i64 t283) ∧ w'.cell? ⟨gb288, 1, none⟩ = some (.int .i64 t284) ∧ w'.cell? ⟨gb288, 2, none⟩ = some (.int .i64 t285) ∧ w'.cell? ⟨gb288, 3, none⟩ = some (.int .i64 t286) ∧ w'.cell? ⟨gb304, 0, none⟩ = some (.int .i64 t299) ∧ w'.cell? ⟨gb304, 1, none⟩ = some (.int .i64 t300) ∧ w'.cell? ⟨gb304, 2, none⟩ = some (.int .i64 t301) ∧ w'.cell? ⟨gb304, 3, none⟩ = some (.int .i64 t302)) (ds := []) #[false, false, false, false, false, false, false, false, false, false, false, false, false, false, false, false, false, false, false, false, false, false, false, false, false, false, false, false, false, false, false, false, false, false, false] (by kernel_rfl) rfl rfl ⟨(blk_cell BK297.out 0).trans rfl, (blk_cell BK297.out 1).trans rfl, (blk_cell BK297.out 2).trans rfl, (blk_cell BK279.out 0).trans rfl, (blk_cell BK279.out 1).trans rfl, (blk_cell BK279.out 2).trans rfl, (blk_cell BK288.out 0).trans rfl, (blk_cell BK288.out 1).trans rfl, (blk_cell BK288.out 2).trans rfl, (blk_cell BK288.out 3).trans rfl, (blk_cell BK304.out 0).trans rfl, (blk_cell BK304.out 1).trans rfl, (blk_cell BK304.out 2).trans rfl, (blk_cell BK304.out 3).trans rfl⟩ (fun hHeld => ?_); refine with_tabW mapmakerlaw28_TilegridTree.tab11 mapmakerlaw28_TilegridTree.bits11 (fun HT_ HW_ => ?_)
             generalize w73.drew = w74 at HO_3 BK279 BK288 BK297 BK304 HB hHeld ⊢
             refine pure_ (i := 0) (N := some 63) (v := ?_) (a' := ?_) #[true, false, false, false, false, false, false, false, false, false, false, false, false, false, false, false, false, false, false, false, false, false, false, false, false, false, false, false, false, false, false, false, false, false, false] rfl rfl (any_of HT_.out (by kernel_rfl)) (fun _ _ _ h => h) (Or.inl ⟨by rfl, ?_⟩) ?_ ?_
             rotate_left
             ·intro w'
              go_simp
              with_reducible rfl
             rotate_left
             ·simp only [Act.put, List.setIfInBounds_toArray, List.set_cons_zero, List.set_cons_succ, i64_w, i32_w]
              rfl
             refine pure_ (i := 1) (N := some 64) (v := ?_) (a' := ?_) #[true, true, false, false, false, false, false, false, false, false, false, false, false, false, false, false, false, false, false, false, false, false, false, false, false, false, false, false, false, false, false, false, false, false, false] rfl rfl (any_of HT_.out (by kernel_rfl)) (fun _ _ _ h => h) (Or.inl ⟨by rfl, ?_⟩) ?_ ?_
             rotate_left
             ·intro w'
              go_simp
              with_reducible rfl
             rotate_left
             ·simp only [Act.put, List.setIfInBounds_toArray, List.set_cons_zero, List.set_cons_succ, i64_w, i32_w]
              rfl
             refine pure_ (i := 2) (N := some 65) (v := ?_) (a' := ?_) #[true, true, true, false, false, false, false, false, false, false, false, false, false, false, false, false, false, false, false, false, false, false, false, false, false, false, false, false, false, false, false, false, false, false, false] rfl rfl (any_of HT_.out (by kernel_rfl)) (fun _ _ _ h => h) (Or.inl ⟨by rfl, ?_⟩) ?_ ?_
             rotate_left
             ·intro w'
              go_simp
              with_reducible rfl
             rotate_left
             ·simp only [Act.put, List.setIfInBounds_toArray, List.set_cons_zero, List.set_cons_succ, i64_w, i32_w]
              rfl
             refine take_ (i := 3) (N := some 66) (v := ?_) (a' := ?_) #[true, true, true, true, false, false, false, false, false, false, false, false, false, false, false, false, false, false, false, false, false, false, false, false, false, false, false, false, false, false, false, false, false, false, false] rfl rfl (take_ofW HT_.out HW_.out (by kernel_rfl)) (fun _ _ _ h => h) (Or.inl ⟨by rfl, ?_⟩) hHeld ?_ ?_
             rotate_left
             ·rintro w' ⟨s0, s1, s2, s3, s4, s5, s6, s7, s8, s9, s10, s11, s12, s13⟩
              go_simp
              with_reducible rfl
             rotate_left
             ·simp only [Act.put, List.setIfInBounds_toArray, List.set_cons_zero, List.set_cons_succ, i64_w, i32_w]
              rfl
             refine take_ (i := 4) (N := some 67) (v := ?_) (a' := ?_) #[true, true, true, true, true, false, false, false, false, false, false, false, false, false, false, false, false, false, false, false, false, false, false, false, false, false, false, false, false, false, false, false, false, false, false] rfl rfl (take_ofW HT_.out HW_.out (by kernel_rfl)) (fun _ _ _ h => h) (Or.inl ⟨by rfl, ?_⟩) hHeld ?_ ?_
             rotate_left
             ·rintro w' ⟨s0, s1, s2, s3, s4, s5, s6, s7, s8, s9, s10, s11, s12, s13⟩
              go_simp
              with_reducible rfl
             rotate_left
             ·simp only [Act.put, List.setIfInBounds_toArray, List.set_cons_zero, List.set_cons_succ, i64_w, i32_w]
              rfl
             refine pure_ (i := 5) (N := some 68) (v := ?_) (a' := ?_) #[true, true, true, true, true, true, false, false, false, false, false, false, false, false, false, false, false, false, false, false, false, false, false, false, false, false, false, false, false, false, false, false, false, false, false] rfl rfl (any_of HT_.out (by kernel_rfl)) (fun _ _ _ h => h) (Or.inl ⟨by rfl, ?_⟩) ?_ ?_
             rotate_left
             ·intro w'
              go_simp
              with_reducible rfl
             rotate_left
             ·simp only [Act.put, List.setIfInBounds_toArray, List.set_cons_zero, List.set_cons_succ, i64_w, i32_w]
              rfl
             refine pure_ (i := 6) (N := some 69) (v := ?_) (a' := ?_) #[true, true, true, true, true, true, true, false, false, false, false, false, false, false, false, false, false, false, false, false, false, false, false, false, false, false, false, false, false, false, false, false, false, false, false] rfl rfl (any_of HT_.out (by kernel_rfl)) (fun _ _ _ h => h) (Or.inl ⟨by rfl, ?_⟩) ?_ ?_
             rotate_left
             ·intro w'
              go_simp
              with_reducible rfl
             rotate_left
             ·simp only [Act.put, List.setIfInBounds_toArray, List.set_cons_zero, List.set_cons_succ, i64_w, i32_w]
              rfl
             refine pure_ (i := 7) (N := some 70) (v := ?_) (a' := ?_) #[true, true, true, true, true, true, true, true, false, false, false, false, false, false, false, false, false, false, false, false, false, false, false, false, false, false, false, false, false, false, false, false, false, false, false] rfl rfl (any_of HT_.out (by kernel_rfl)) (fun _ _ _ h => h) (Or.inl ⟨by rfl, ?_⟩) ?_ ?_
             rotate_left
             ·intro w'
              go_simp
              with_reducible rfl
             rotate_left
             ·simp only [Act.put, List.setIfInBounds_toArray, List.set_cons_zero, List.set_cons_succ, i64_w, i32_w]
              rfl
             refine pure_ (i := 8) (N := some 71) (v := ?_) (a' := ?_) #[true, true, true, true, true, true, true, true, true, false, false, false, false, false, false, false, false, false, false, false, false, false, false, false, false, false, false, false, false, false, false, false, false, false, false] rfl rfl (any_of HT_.out (by kernel_rfl)) (fun _ _ _ h => h) (Or.inl ⟨by rfl, ?_⟩) ?_ ?_
             rotate_left
             ·intro w'
              go_simp
              with_reducible rfl
             rotate_left
             ·simp only [Act.put, List.setIfInBounds_toArray, List.set_cons_zero, List.set_cons_succ, i64_w, i32_w]
              rfl
             refine pure_ (i := 9) (N := some 72) (v := ?_) (a' := ?_) #[true, true, true, true, true, true, true, true, true, true, false, false, false, false, false, false, false, false, false, false, false, false, false, false, false, false, false, false, false, false, false, false, false, false, false] rfl rfl (any_of HT_.out (by kernel_rfl)) (fun _ _ _ h => h) (Or.inl ⟨by rfl, ?_⟩) ?_ ?_
             rotate_left
             ·intro w'
              go_simp
              with_reducible rfl
             rotate_left
             ·simp only [Act.put, List.setIfInBounds_toArray, List.set_cons_zero, List.set_cons_succ, i64_w, i32_w]
              rfl
             refine pure_ (i := 10) (N := some 73) (v := ?_) (a' := ?_) #[true, true, true, true, true, true, true, true, true, true, true, false, false, false, false, false, false, false, false, false, false, false, false, false, false, false, false, false, false, false, false, false, false, false, false] rfl rfl (any_of HT_.out (by kernel_rfl)) (fun _ _ _ h => h) (Or.inl ⟨by rfl, ?_⟩) ?_ ?_
             rotate_left
             ·intro w'
              go_simp
              with_reducible rfl
             rotate_left
             ·simp only [Act.put, List.setIfInBounds_toArray, List.set_cons_zero, List.set_cons_succ, i64_w, i32_w]
              rfl
             refine pure_ (i := 11) (N := some 74) (v := ?_) (a' := ?_) #[true, true, true, true, true, true, true, true, true, true, true, true, false, false, false, false, false, false, false, false, false, false, false, false, false, false, false, false, false, false, false, false, false, false, false] rfl rfl (any_of HT_.out (by kernel_rfl)) (fun _ _ _ h => h) (Or.inl ⟨by rfl, ?_⟩) ?_ ?_
             rotate_left
             ·intro w'
              go_simp
              with_reducible rfl
             rotate_left
             ·simp only [Act.put, List.setIfInBounds_toArray, List.set_cons_zero, List.set_cons_succ, i64_w, i32_w]
              rfl
             refine pure_ (i := 12) (N := some 75) (v := ?_) (a' := ?_) #[true, true, true, true, true, true, true, true, true, true, true, true, true, false, false, false, false, false, false, false, false, false, false, false, false, false, false, false, false, false, false, false, false, false, false] rfl rfl (any_of HT_.out (by kernel_rfl)) (fun _ _ _ h => h) (Or.inl ⟨by rfl, ?_⟩) ?_ ?_
             rotate_left
             ·intro w'
              go_simp
              with_reducible rfl
             rotate_left
             ·simp only [Act.put, List.setIfInBounds_toArray, List.set_cons_zero, List.set_cons_succ, i64_w, i32_w]
              rfl
             refine pure_ (i := 13) (N := some 76) (v := ?_) (a' := ?_) #[true, true, true, true, true, true, true, true, true, true, true, true, true, true, false, false, false, false, false, false, false, false, false, false, false, false, false, false, false, false, false, false, false, false, false] rfl rfl (any_of HT_.out (by kernel_rfl)) (fun _ _ _ h => h) (Or.inl ⟨by rfl, ?_⟩) ?_ ?_
             rotate_left
             ·intro w'
              go_simp
              with_reducible rfl
             rotate_left
             ·simp only [Act.put, List.setIfInBounds_toArray, List.set_cons_zero, List.set_cons_succ, i64_w, i32_w]
              rfl
             refine pure_ (i := 14) (N := some 77) (v := ?_) (a' := ?_) #[true, true, true, true, true, true, true, true, true, true, true, true, true, true, true, false, false, false, false, false, false, false, false, false, false, false, false, false, false, false, false, false, false, false, false] rfl rfl (any_of HT_.out (by kernel_rfl)) (fun _ _ _ h => h) (Or.inl ⟨by rfl, ?_⟩) ?_ ?_
             rotate_left
             ·intro w'
              go_simp
              with_reducible rfl
             rotate_left
             ·simp only [Act.put, List.setIfInBounds_toArray, List.set_cons_zero, List.set_cons_succ, i64_w, i32_w]
              rfl
             refine pure_ (i := 15) (N := some 78) (v := undef) (a' := ?_) #[true, true, true, true, true, true, true, true, true, true, true, true, true, true, true, true, false, false, false, false, false, false, false, false, false, false, false, false, false, false, false, false, false, false, false] rfl rfl (any_of HT_.out (by kernel_rfl)) (fun _ _ _ h => h) (Or.inr ⟨by rfl, rfl⟩) ?_ ?_
             rotate_left
             ·simp only [Act.put, List.setIfInBounds_toArray, List.set_cons_zero, List.set_cons_succ, i64_w, i32_w]
              rfl
             refine pure_ (i := 16) (N := some 79) (v := undef) (a' := ?_) #[true, true, true, true, true, true, true, true, true, true, true, true, true, true, true, true, true, false, false, false, false, false, false, false, false, false, false, false, false, false, false, false, false, false, false] rfl rfl (any_of HT_.out (by kernel_rfl)) (fun _ _ _ h => h) (Or.inr ⟨by rfl, rfl⟩) ?_ ?_
             rotate_left
             ·simp only [Act.put, List.setIfInBounds_toArray, List.set_cons_zero, List.set_cons_succ, i64_w, i32_w]
              rfl
             refine pure_ (i := 17) (N := some 80) (v := undef) (a' := ?_) #[true, true, true, true, true, true, true, true, true, true, true, true, true, true, true, true, true, true, false, false, false, false, false, false, false, false, false, false, false, false, false, false, false, false, false] rfl rfl (any_of HT_.out (by kernel_rfl)) (fun _ _ _ h => h) (Or.inr ⟨by rfl, rfl⟩) ?_ ?_
             rotate_left
             ·simp only [Act.put, List.setIfInBounds_toArray, List.set_cons_zero, List.set_cons_succ, i64_w, i32_w]
              rfl
             refine pure_ (i := 18) (N := some 81) (v := undef) (a' := ?_) #[true, true, true, true, true, true, true, true, true, true, true, true, true, true, true, true, true, true, true, false, false, false, false, false, false, false, false, false, false, false, false, false, false, false, false] rfl rfl (any_of HT_.out (by kernel_rfl)) (fun _ _ _ h => h) (Or.inr ⟨by rfl, rfl⟩) ?_ ?_
             rotate_left
             ·simp only [Act.put, List.setIfInBounds_toArray, List.set_cons_zero, List.set_cons_succ, i64_w, i32_w]
              rfl
             refine pure_ (i := 19) (N := some 82) (v := undef) (a' := ?_) #[true, true, true, true, true, true, true, true, true, true, true, true, true, true, true, true, true, true, true, true, false, false, false, false, false, false, false, false, false, false, false, false, false, false, false] rfl rfl (any_of HT_.out (by kernel_rfl)) (fun _ _ _ h => h) (Or.inr ⟨by rfl, rfl⟩) ?_ ?_
             rotate_left
             ·simp only [Act.put, List.setIfInBounds_toArray, List.set_cons_zero, List.set_cons_succ, i64_w, i32_w]
              rfl
             refine pure_ (i := 20) (N := some 83) (v := undef) (a' := ?_) #[true, true, true, true, true, true, true, true, true, true, true, true, true, true, true, true, true, true, true, true, true, false, false, false, false, false, false, false, false, false, false, false, false, false, false] rfl rfl (any_of HT_.out (by kernel_rfl)) (fun _ _ _ h => h) (Or.inr ⟨by rfl, rfl⟩) ?_ ?_
             rotate_left
             ·simp only [Act.put, List.setIfInBounds_toArray, List.set_cons_zero, List.set_cons_succ, i64_w, i32_w]
              rfl
             refine pure_ (i := 21) (N := some 84) (v := undef) (a' := ?_) #[true, true, true, true, true, true, true, true, true, true, true, true, true, true, true, true, true, true, true, true, true, true, false, false, false, false, false, false, false, false, false, false, false, false, false] rfl rfl (any_of HT_.out (by kernel_rfl)) (fun _ _ _ h => h) (Or.inr ⟨by rfl, rfl⟩) ?_ ?_
             rotate_left
             ·simp only [Act.put, List.setIfInBounds_toArray, List.set_cons_zero, List.set_cons_succ, i64_w, i32_w]
              rfl
             refine pure_ (i := 22) (N := some 85) (v := undef) (a' := ?_) #[true, true, true, true, true, true, true, true, true, true, true, true, true, true, true, true, true, true, true, true, true, true, true, false, false, false, false, false, false, false, false, false, false, false, false] rfl rfl (any_of HT_.out (by kernel_rfl)) (fun _ _ _ h => h) (Or.inr ⟨by rfl, rfl⟩) ?_ ?_
             rotate_left
             ·simp only [Act.put, List.setIfInBounds_toArray, List.set_cons_zero, List.set_cons_succ, i64_w, i32_w]
              rfl
             refine pure_ (i := 23) (N := some 86) (v := undef) (a' := ?_) #[true, true, true, true, true, true, true, true, true, true, true, true, true, true, true, true, true, true, true, true, true, true, true, true, false, false, false, false, false, false, false, false, false, false, false] rfl rfl (any_of HT_.out (by kernel_rfl)) (fun _ _ _ h => h) (Or.inr ⟨by rfl, rfl⟩) ?_ ?_
             rotate_left
             ·simp only [Act.put, List.setIfInBounds_toArray, List.set_cons_zero, List.set_cons_succ, i64_w, i32_w]
              rfl
             refine pure_ (i := 24) (N := some 87) (v := undef) (a' := ?_) #[true, true, true, true, true, true, true, true, true, true, true, true, true, true, true, true, true, true, true, true, true, true, true, true, true, false, false, false, false, false, false, false, false, false, false] rfl rfl (any_of HT_.out (by kernel_rfl)) (fun _ _ _ h => h) (Or.inr ⟨by rfl, rfl⟩) ?_ ?_
             rotate_left
             ·simp only [Act.put, List.setIfInBounds_toArray, List.set_cons_zero, List.set_cons_succ, i64_w, i32_w]
              rfl
             refine pure_ (i := 25) (N := some 88) (v := undef) (a' := ?_) #[true, true, true, true, true, true, true, true, true, true, true, true, true, true, true, true, true, true, true, true, true, true, true, true, true, true, false, false, false, false, false, false, false, false, false] rfl rfl (any_of HT_.out (by kernel_rfl)) (fun _ _ _ h => h) (Or.inr ⟨by rfl, rfl⟩) ?_ ?_
             rotate_left
             ·simp only [Act.put, List.setIfInBounds_toArray, List.set_cons_zero, List.set_cons_succ, i64_w, i32_w]
              rfl
             refine pure_ (i := 26) (N := some 89) (v := ?_) (a' := ?_) #[true, true, true, true, true, true, true, true, true, true, true, true, true, true, true, true, true, true, true, true, true, true, true, true, true, true, true, false, false, false, false, false, false, false, false] rfl rfl (any_of HT_.out (by kernel_rfl)) (fun _ _ _ h => h) (Or.inl ⟨by rfl, ?_⟩) ?_ ?_
             rotate_left
             ·intro w'
              go_simp
              with_reducible rfl
             rotate_left
             ·simp only [Act.put, List.setIfInBounds_toArray, List.set_cons_zero, List.set_cons_succ, i64_w, i32_w]
              rfl
             refine pure_ (i := 27) (N := some 90) (v := ?_) (a' := ?_) #[true, true, true, true, true, true, true, true, true, true, true, true, true, true, true, true, true, true, true, true, true, true, true, true, true, true, true, true, false, false, false, false, false, false, false] rfl rfl (any_of HT_.out (by kernel_rfl)) (fun _ _ _ h => h) (Or.inl ⟨by rfl, ?_⟩) ?_ ?_
             rotate_left
             ·intro w'
              go_simp
              with_reducible rfl
             rotate_left
             ·simp only [Act.put, List.setIfInBounds_toArray, List.set_cons_zero, List.set_cons_succ, i64_w, i32_w]
              rfl
             refine pure_ (i := 28) (N := some 91) (v := ?_) (a' := ?_) #[true, true, true, true, true, true, true, true, true, true, true, true, true, true, true, true, true, true, true, true, true, true, true, true, true, true, true, true, true, false, false, false, false, false, false] rfl rfl (any_of HT_.out (by kernel_rfl)) (fun _ _ _ h => h) (Or.inl ⟨by rfl, ?_⟩) ?_ ?_
             rotate_left
             ·intro w'
              go_simp
              with_reducible rfl
             rotate_left
             ·simp only [Act.put, List.setIfInBounds_toArray, List.set_cons_zero, List.set_cons_succ, i64_w, i32_w]
              rfl
             refine take_ (i := 29) (N := some 92) (v := ?_) (a' := ?_) #[true, true, true, true, true, true, true, true, true, true, true, true, true, true, true, true, true, true, true, true, true, true, true, true, true, true, true, true, true, true, false, false, false, false, false] rfl rfl (take_ofW HT_.out HW_.out (by kernel_rfl)) (fun _ _ _ h => h) (Or.inl ⟨by rfl, ?_⟩) hHeld ?_ ?_
             rotate_left
             ·rintro w' ⟨s0, s1, s2, s3, s4, s5, s6, s7, s8, s9, s10, s11, s12, s13⟩
              go_simp
              with_reducible rfl
             rotate_left
             ·simp only [Act.put, List.setIfInBounds_toArray, List.set_cons_zero, List.set_cons_succ, i64_w, i32_w]
              rfl
             refine take_ (i := 30) (N := some 93) (v := ?_) (a' := ?_) #[true, true, true, true, true, true, true, true, true, true, true, true, true, true, true, true, true, true, true, true, true, true, true, true, true, true, true, true, true, true, true, false, false, false, false] rfl rfl (take_ofW HT_.out HW_.out (by kernel_rfl)) (fun _ _ _ h => h) (Or.inl ⟨by rfl, ?_⟩) hHeld ?_ ?_
             rotate_left
             ·rintro w' ⟨s0, s1, s2, s3, s4, s5, s6, s7, s8, s9, s10, s11, s12, s13⟩
              go_simp
              with_reducible rfl
             rotate_left
             ·simp only [Act.put, List.setIfInBounds_toArray, List.set_cons_zero, List.set_cons_succ, i64_w, i32_w]
              rfl
             refine take_ (i := 32) (N := some 95) (v := ?_) (a' := ?_) #[true, true, true, true, true, true, true, true, true, true, true, true, true, true, true, true, true, true, true, true, true, true, true, true, true, true, true, true, true, true, true, false, true, false, false] rfl rfl (take_ofW HT_.out HW_.out (by kernel_rfl)) (fun _ _ _ h => h) (Or.inl ⟨by rfl, ?_⟩) hHeld ?_ ?_
             rotate_left
             ·rintro w' ⟨s0, s1, s2, s3, s4, s5, s6, s7, s8, s9, s10, s11, s12, s13⟩
              go_simp
              with_reducible rfl
             rotate_left
             ·simp only [Act.put, List.setIfInBounds_toArray, List.set_cons_zero, List.set_cons_succ, i64_w, i32_w]
              rfl
             refine one_ (i := 31) (N := some 94) #[true, true, true, true, true, true, true, true, true, true, true, true, true, true, true, true, true, true, true, true, true, true, true, true, true, true, true, true, true, true, true, true, true, false, false] rfl rfl (one_of HT_.out (by kernel_rfl)) (by decide) (fun K hK => ?_)
             refine goes_ Try.func27 (by kernel_rfl) rfl #[.agg #[.int .i64 t283, .int .i64 t284, .int .i64 t285, .int .i64 t286], .agg #[.int .i64 t299, .int .i64 t300, .int .i64 t301, .int .i64 t302]] (by rfl) rfl rfl (by (try simp only [List.map_toArray, List.map_cons, List.map_nil]); first | done | rfl | (simp only [List.length_drop, List.length_take]; rfl)) ?_
             with_reducible refine (mapmakerref08_Join.calls t283 t284 t285 t286 t299 t300 t301 t302 t312 t313 t314 t315 _ A59.out).mono ?_
             rintro e w75 ⟨rfl, hb⟩
             refine ⟨_, rfl, ?_⟩
             have n0_ := Aside0.mk (Kd.R_below (by (with_reducible repeat (first | apply Kd.R_alloc | apply Kd.R_drewN | apply Kd.R_drew)); exact HO_3.out) hb)
             have n1_ := Aside0.mk (blk_below (by (with_reducible repeat first | apply blk_drewN | apply blk_drew | apply blk_alloc); exact BK279.out) hb)
             have n2_ := Aside0.mk (blk_below (by (with_reducible repeat first | apply blk_drewN | apply blk_drew | apply blk_alloc); exact BK288.out) hb)
             have n3_ := Aside0.mk (blk_below (by (with_reducible repeat first | apply blk_drewN | apply blk_drew | apply blk_alloc); exact BK297.out) hb)
             have n4_ := Aside0.mk (blk_below (by (with_reducible repeat first | apply blk_drewN | apply blk_drew | apply blk_alloc); exact BK304.out) hb)
             have n5_ := Aside0.mk (below_step (by repeat (first | (with_reducible first | exact HB.out | apply below_alloc | apply pw_below_drewN | apply below_drew1 | refine below_set ?_ GE279.out | refine below_set ?_ GE288.out | refine below_set ?_ GE297.out | refine below_set ?_ GE304.out) | exact HB.out)) hb)
             clear HO_3 BK279 BK288 BK297 BK304 HB
             have HO_3 := n0_; have BK279 := n1_; have BK288 := n2_; have BK297 := n3_; have BK304 := n4_; have HB := n5_
             clear n0_ n1_ n2_ n3_ n4_ n5_
             (try clear hb)
             (try clear hb2)
             (try clear hk)
             (try clear hi)
             refine hK.out _ _ ⟨(blk_cell BK297.out 0).trans rfl, (blk_cell BK297.out 1).trans rfl, (blk_cell BK297.out 2).trans rfl, (blk_cell BK279.out 0).trans rfl, (blk_cell BK279.out 1).trans rfl, (blk_cell BK279.out 2).trans rfl, (blk_cell BK288.out 0).trans rfl, (blk_cell BK288.out 1).trans rfl, (blk_cell BK288.out 2).trans rfl, (blk_cell BK288.out 3).trans rfl, (blk_cell BK304.out 0).trans rfl, (blk_cell BK304.out 1).trans rfl, (blk_cell BK304.out 2).trans rfl, (blk_cell BK304.out 3).trans rfl⟩ (fun hHeld => ?_)
             clear hK K
             refine norm_ (a' := ?_) ?_ ?_
             rotate_left
             ·show Act.put _ (some 94) _ = _
              simp only [Act.put, List.setIfInBounds_toArray, List.set_cons_zero, List.set_cons_succ, i64_w, i32_w]
              rfl
             refine pure_ (i := 33) (N := some 96) (v := ?_) (a' := ?_) #[true, true, true, true, true, true, true, true, true, true, true, true, true, true, true, true, true, true, true, true, true, true, true, true, true, true, true, true, true, true, true, true, true, true, false] rfl rfl (any_of HT_.out (by kernel_rfl)) (fun _ _ _ h => h) (Or.inl ⟨by rfl, ?_⟩) ?_ ?_
             rotate_left
             ·intro w'
              go_simp
              with_reducible rfl
             rotate_left
             ·simp only [Act.put, List.setIfInBounds_toArray, List.set_cons_zero, List.set_cons_succ, i64_w, i32_w]
              rfl
             refine pure_ (i := 34) (N := some 97) (v := ?_) (a' := ?_) #[true, true, true, true, true, true, true, true, true, true, true, true, true, true, true, true, true, true, true, true, true, true, true, true, true, true, true, true, true, true, true, true, true, true, true] rfl rfl (any_of HT_.out (by kernel_rfl)) (fun _ _ _ h => h) (Or.inl ⟨by rfl, ?_⟩) ?_ ?_
             rotate_left
             ·intro w'
              go_simp
              with_reducible rfl
             rotate_left
             ·simp only [Act.put, List.setIfInBounds_toArray, List.set_cons_zero, List.set_cons_succ, i64_w, i32_w]
              rfl
             refine done_ (done_of HT_.out (by kernel_rfl)) ?_
             have hcz76_0 : w75.cell? ⟨gb304, 0, none⟩ = some (.int .i64 t299) := (blk_cell BK304.out 0).trans rfl
             have hcz76_1 : w75.cell? ⟨gb304, 1, none⟩ = some (.int .i64 t300) := (blk_cell BK304.out 1).trans rfl
             have hcz76_2 : w75.cell? ⟨gb304, 2, none⟩ = some (.int .i64 t301) := (blk_cell BK304.out 2).trans rfl
             have hcz76_3 : w75.cell? ⟨gb304, 3, none⟩ = some (.int .i64 t302) := (blk_cell BK304.out 3).trans rfl
             have hfz76_0 := blk_frozen BK304.out 0
             have hfz76_1 := blk_frozen BK304.out 1
             have hfz76_2 := blk_frozen BK304.out 2
             have hfz76_3 := blk_frozen BK304.out 3
             try go_wp2
             go_roundg k2
             case measure => have := HJ3.out; have := HK2.out; omega
             case rel => exact ⟨(wrap64 (x6_2 + (wrap64 ((wrap64 (t301 - t299)) * (wrap64 (t302 - t300)))))), (wrap64 (x7_2 + 1)), (by first | rfl | (simp; done) | (simp [*]; done)), (by first | rfl | (simp; done) | (simp [*]; done)), H', ⟨by have := HJ3.out; have := HK2.out; omega⟩, ⟨by (with_reducible repeat (first | apply Kd.R_alloc | apply Kd.R_drewN | apply Kd.R_drew)); exact Kd.R_mono HO_3.out (fun _ hk => hk.1)⟩, ⟨by (with_reducible repeat first | apply blk_drewN | apply blk_drew | apply blk_alloc); exact BK279.out⟩, ⟨by (with_reducible repeat first | apply blk_drewN | apply blk_drew | apply blk_alloc); exact BK288.out⟩, ⟨by repeat (first | (with_reducible first | exact HB.out | apply below_alloc | apply pw_below_drewN | apply below_drew1 | refine below_set ?_ GE279.out | refine below_set ?_ GE288.out | refine below_set ?_ GE297.out | refine below_set ?_ GE304.out) | exact HB.out)⟩⟩
          ·rw [if_neg c33] at H
           exact absurd H (by simp)
        ·replace c31 := Bool.eq_false_iff.mpr c31
         subst c31
         have H1 : (none) = some r := by rw [if_neg (show ¬ (false = true) by decide)] at H; exact H
         clear H
         have H := H1
         clear H1
         exact absurd H (by simp)
       ·rw [if_neg c28] at H
        exact absurd H (by simp)
      ·rw [if_neg c27] at H
       have c27b0 : decide (x7_2 < (t280.length : Int)) = false := decide_eq_false c27
       clear c27
       by_cases c77 : (t280.length : Int) = 4
       ·rw [if_pos c77] at H
        have c77b0 : ((t280.length : Int) == 4) = true := beq_iff_eq.mpr c77
        have c77b1 : ((t280.length : Int) != 4) = false := bne_eq_false_iff_eq.mpr c77
        clear c77
        by_cases c78 : x6_2 = (wrap64 ((wrap64 (t285 - t283)) * (wrap64 (t286 - t284))))
        ·rw [if_pos c78] at H
         have c78b0 : (x6_2 == (wrap64 ((wrap64 (t285 - t283)) * (wrap64 (t286 - t284))))) = true := beq_iff_eq.mpr c78
         have c78b1 : (x6_2 != (wrap64 ((wrap64 (t285 - t283)) * (wrap64 (t286 - t284))))) = false := bne_eq_false_iff_eq.mpr c78
         clear c78
         replace H := Option.bind_eq_some_iff.mp H
         obtain ⟨t291, A790, H⟩ := H
         replace H : (some t291) = some r := H
         have A79 := Aside0.mk A790
         clear A790
         obtain rfl := Option.some.inj H
         obtain ⟨Ao80, co80, eo80⟩ := Kd.R_slice HO_3.out
         subst eo80
         have hnb81 := NB288_279.out
         have hnc81 := NB279_288.out
         have hcz82_0 : wr.cell? ⟨gb288, 0, none⟩ = some (.int .i64 t283) := (blk_cell BK288.out 0).trans rfl
         have hcz82_1 : wr.cell? ⟨gb288, 1, none⟩ = some (.int .i64 t284) := (blk_cell BK288.out 1).trans rfl
         have hcz82_2 : wr.cell? ⟨gb288, 2, none⟩ = some (.int .i64 t285) := (blk_cell BK288.out 2).trans rfl
         have hcz82_3 : wr.cell? ⟨gb288, 3, none⟩ = some (.int .i64 t286) := (blk_cell BK288.out 3).trans rfl
         have hfz82_0 := blk_frozen BK288.out 0
         have hfz82_1 := blk_frozen BK288.out 1
         have hfz82_2 := blk_frozen BK288.out 2
         have hfz82_3 := blk_frozen BK288.out 3
         go_wp2_with (first | (go_at_call 12; (with_reducible refine (mapmakerlaw28_lives.calls k2  t291 _ A79.out).mono ?_); rintro e w83 ⟨rfl, hb⟩; have n0_ := Aside0.mk (Kd.R_below (by (with_reducible repeat (first | apply Kd.R_alloc | apply Kd.R_drewN | apply Kd.R_drew)); exact HO_3.out) hb); have n1_ := Aside0.mk (blk_below (by (with_reducible repeat first | apply blk_drewN | apply blk_drew | apply blk_alloc); exact BK279.out) hb); have n2_ := Aside0.mk (blk_below (by (with_reducible repeat first | apply blk_drewN | apply blk_drew | apply blk_alloc); exact BK288.out) hb); have n3_ := Aside0.mk (below_step (by repeat (first | (with_reducible first | exact HB.out | apply below_alloc | apply pw_below_drewN | apply below_drew1 | refine below_set ?_ GE279.out | refine below_set ?_ GE288.out) | exact HB.out)) hb); clear HO_3 BK279 BK288 HB; have HO_3 := n0_; have BK279 := n1_; have BK288 := n2_; have HB := n3_; clear n0_ n1_ n2_ n3_; (try clear hb); (try clear hb2); (try clear hk); (try clear hi)))
         go_ret
         exact ⟨by first | rfl | (simp [errW_none, errW_some] <;> rfl) | (simp [*, errW_none, errW_some] <;> rfl), by repeat (first | (with_reducible first | exact HB.out | apply below_alloc | apply pw_below_drewN | apply below_drew1 | refine below_set ?_ GE279.out | refine below_set ?_ GE288.out) | exact HB.out)⟩
        ·rw [if_neg c78] at H
         exact absurd H (by simp)
       ·rw [if_neg c77] at H
        exact absurd H (by simp)

/-- THE ONE PURE STATEMENT of mapmakerlaw28_TilegridTree. -/
def mapmakerlaw28_TilegridTree.Pure : Prop := ∀ (a0_0 : Int) (a0_1 : Int) (a0_2 : Int), ((Lit.int .i64 a0_0).wf = true ∧ (Lit.int .i64 a0_1).wf = true ∧ (Lit.int .i64 a0_2).wf = true) → ∃ k, mapmakerlaw28_TilegridTree.f k a0_0 a0_1 a0_2 = some true

end Go.Proofs.Ytdmobbbegdknkaa.PAll
