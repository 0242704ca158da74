-- Written by a program of this session (wip/tools), over the words that print.sh lays. (slim)
import Derived.Test.YtdmobbbegdknkaaPAllx0
import Derived.Test.YtdmobbbegdknkaaPAllx4
import Derived.Test.YtdmobbbegdknkaaPAllx5
import Derived.Test.YtdmobbbegdknkaaPAllx7
import Derived.Test.YtdmobbbegdknkaaPAllx8
namespace Go.Proofs.Ytdmobbbegdknkaa.PAll
open Go.RowKit Go.Proofs.YtdmobbbegdknkaaW.PrintWords Go.Proofs.YtdmobbbegdknkaaW.PrintLast Go.Proofs.YtdmobbbegdknkaaW.PrintMore
attribute [local go_sem] max2_int min2_int max_two min_two max_three min_three max_four min_four   -- for this text's walks alone
set_option linter.unusedVariables false
set_option linter.unusedSimpArgs false
attribute [local irreducible] Calls

/-! ### tilegrid_Cover: function 10 -/
def tilegrid_first.f (n v : Int) : Option Int := (num_FloorDiv.f (wrap64 (v - 1)) n).bind fun t => some (mx 0 t)
def tilegrid_last.f (z n v : Int) : Option Int := (tilegrid_side.f z).bind fun s => if n = 0 then none else some (mn (wrap64 (s - 1)) (wrap64 (Int.tdiv v n)))
mutual
def tilegrid_Cover.l0 : Nat → Int → Int → Int → List (S30) → Int → Int → Int → Option ((List (S30)))
 | 0, _, _, _, _, _, _, _ => none
 | k + 1, x8, x9, x10, x12, x45, x46, z => if x46 < x45 then (tilegrid_Cover.l1 k x8 x9 x10 x12 x46 x45 x46 (wrap64 ((wrap64 (x9 - x8)) + 1)) 0 z) else (some x12)
def tilegrid_Cover.l1 : Nat → Int → Int → Int → List (S30) → Int → Int → Int → Int → Int → Int → Option ((List (S30)))
 | 0, _, _, _, _, _, _, _, _, _, _ => none
 | k + 1, x8, x9, x10, x12, x13, x45, x46, x52, x53, z => if x53 < x52 then (if x12.length < 5864062014805 then (tilegrid_Cover.l1 k x8 x9 x10 (x12 ++ [(⟨z, wrap64 (x8 + x53), wrap64 (x10 + x13)⟩ : S30)]) x13 x45 x46 x52 (wrap64 (x53 + 1)) z) else (none)) else (tilegrid_Cover.l0 k x8 x9 x10 x12 x45 (wrap64 (x46 + 1)) z)
end
def tilegrid_Cover.j0 (k : Nat) (x23 : Bool) (b0 b1 b2 b3 z n : Int) : Option ((List (S30))) := if x23 = true then (some ([] : List (S30))) else ((tilegrid_first.f n b0).bind fun t110 => ((tilegrid_last.f z n b2).bind fun t111 => ((tilegrid_first.f n b1).bind fun t112 => ((tilegrid_last.f z n b3).bind fun t113 => (tilegrid_Cover.l0 k t110 t111 t112 ([] : List (S30)) (wrap64 ((wrap64 (t113 - t112)) + 1)) 0 z)))))
def tilegrid_Cover.f (k : Nat) (a0_0 : Int) (a0_1 : Int) (a0_2 : Int) (a0_3 : Int) (a1 : Int) : Option ((List (S30))) := (tilegrid_Size.f a1).bind fun t108 => (if t108 = 0 then (tilegrid_Cover.j0 k true a0_0 a0_1 a0_2 a0_3 a1 t108) else ((grid_Check.f a0_0 a0_1 a0_2 a0_3).bind fun t109 => (tilegrid_Cover.j0 k (t109 != 0) a0_0 a0_1 a0_2 a0_3 a1 t108)))
theorem tilegrid_Cover.mono_l : ∀ k, (∀ y0 y1 y2 y3 y4 y5 y6, LeO (tilegrid_Cover.l0 k y0 y1 y2 y3 y4 y5 y6) (tilegrid_Cover.l0 (k + 1) y0 y1 y2 y3 y4 y5 y6)) ∧ (∀ y0 y1 y2 y3 y4 y5 y6 y7 y8 y9, LeO (tilegrid_Cover.l1 k y0 y1 y2 y3 y4 y5 y6 y7 y8 y9) (tilegrid_Cover.l1 (k + 1) y0 y1 y2 y3 y4 y5 y6 y7 y8 y9))
 | 0 => ⟨fun _ _ _ _ _ _ _ r h => by simp [tilegrid_Cover.l0] at h, fun _ _ _ _ _ _ _ _ _ _ r h => by simp [tilegrid_Cover.l1] at h⟩
 | k + 1 => by
  obtain ⟨ih1, ih2⟩ := tilegrid_Cover.mono_l k
  refine ⟨?_, ?_⟩
  ·intro y0 y1 y2 y3 y4 y5 y6
   unfold tilegrid_Cover.l0
   exact LeO.ite (ih2 _ _ _ _ _ _ _ _ _ _) (LeO.refl _)
  ·intro y0 y1 y2 y3 y4 y5 y6 y7 y8 y9
   unfold tilegrid_Cover.l1
   exact LeO.ite (LeO.ite (ih2 _ _ _ _ _ _ _ _ _ _) (LeO.none _)) (ih1 _ _ _ _ _ _ _)
theorem tilegrid_Cover.mono_j (k : Nat) (x : Bool) (b0 b1 b2 b3 z n : Int) : LeO (tilegrid_Cover.j0 k x b0 b1 b2 b3 z n) (tilegrid_Cover.j0 (k + 1) x b0 b1 b2 b3 z n) := by
 unfold tilegrid_Cover.j0
 exact LeO.ite (LeO.refl _) (LeO.bind (LeO.refl _) fun _ => LeO.bind (LeO.refl _) fun _ => LeO.bind (LeO.refl _) fun _ => LeO.bind (LeO.refl _) fun _ => (tilegrid_Cover.mono_l k).1 _ _ _ _ _ _ _)
theorem tilegrid_Cover.mono : ∀ a0 a1 a2 a3 a4 k, LeO (tilegrid_Cover.f k a0 a1 a2 a3 a4) (tilegrid_Cover.f (k + 1) a0 a1 a2 a3 a4) := by
 intro a0 a1 a2 a3 a4 k
 unfold tilegrid_Cover.f
 exact LeO.bind (LeO.refl _) fun _ => LeO.ite (tilegrid_Cover.mono_j _ _ _ _ _ _ _ _) (LeO.bind (LeO.refl _) fun _ => tilegrid_Cover.mono_j _ _ _ _ _ _ _ _)
set_option maxHeartbeats 4000000 in
set_option maxRecDepth 100000 in
theorem tilegrid_first.calls (n v r : Int) (g : Nat) (w : World) (hc : w.cell? ⟨g, 0, none⟩ = some (.int .i64 n)) (h : tilegrid_first.f n v = some r) :
  Calls Try.prog 34 #[.int .i64 v, .pointer (some ⟨g, 0, none⟩)] w fun e w' => e = .returned (.int .i64 r) ∧ Drawn0 w w' := by
 unfold tilegrid_first.f at h
 obtain ⟨t, ht, h⟩ := Option.bind_eq_some_iff.1 h
 obtain rfl := Option.some.inj h
 clear h
 have e : ∀ b : Bool, decide (0 < t) = b → mx 0 t = if b = true then t else 0 := fun b hb => by
  unfold mx
  rw [← hb]
  simp
 go_enter Try.func34, Try.ntmps34
 by_cases c : 0 < t
 ·rw [e true (decide_eq_true c), if_pos rfl]
  go_wp2_with (go_at_call 35; (with_reducible refine (num_FloorDiv.calls _ n t _ ht).mono ?_); rintro e w1 ⟨rfl, ⟨nd, rfl⟩⟩)
  go_ret
  exact ⟨rfl, ⟨nd, rfl⟩⟩
 ·rw [e false (decide_eq_false c), if_neg (by decide)]
  go_wp2_with (go_at_call 35; (with_reducible refine (num_FloorDiv.calls _ n t _ ht).mono ?_); rintro e w1 ⟨rfl, ⟨nd, rfl⟩⟩)
  go_ret
  exact ⟨rfl, ⟨nd, rfl⟩⟩
set_option maxHeartbeats 4000000 in
set_option maxRecDepth 100000 in
theorem tilegrid_last.calls (z n v r : Int) (gz g : Nat) (w : World) (hz : w.cell? ⟨gz, 0, none⟩ = some (.int .i64 z)) (hc : w.cell? ⟨g, 0, none⟩ = some (.int .i64 n)) (h : tilegrid_last.f z n v = some r) :
  Calls Try.prog 36 #[.int .i64 v, .pointer (some ⟨gz, 0, none⟩), .pointer (some ⟨g, 0, none⟩)] w fun e w' => e = .returned (.int .i64 r) ∧ Drawn0 w w' := by
 unfold tilegrid_last.f at h
 obtain ⟨t, ht, h⟩ := Option.bind_eq_some_iff.1 h
 by_cases hn : n = 0
 ·rw [if_pos hn] at h
  exact absurd h (by simp)
 rw [if_neg hn] at h
 obtain rfl := Option.some.inj h
 clear h
 go_enter Try.func36, Try.ntmps36
 by_cases c : wrap64 (Int.tdiv v n) < wrap64 (t - 1)
 ·rw [show mn (wrap64 (t - 1)) (wrap64 (Int.tdiv v n)) = wrap64 (Int.tdiv v n) from if_pos c]
  go_wp2
  go_quiet (first | (go_at_call 37; (with_reducible refine (tilegrid_side.calls z t _ ht).mono ?_); rintro e w' ⟨rfl, ⟨nd, rfl⟩⟩; (try first | exact ⟨rfl, _, World.drewN_drewN _ _ _⟩ | exact ⟨rfl, _, Eq.trans (World.drewN_drewN _ _ _) (congrArg (World.drewN _) (Nat.add_assoc _ _ _))⟩)))
  go_wp2
  go_ret
  exact ⟨rfl, ⟨_, rfl⟩⟩
 ·rw [show mn (wrap64 (t - 1)) (wrap64 (Int.tdiv v n)) = wrap64 (t - 1) from if_neg c]
  go_wp2
  go_quiet (first | (go_at_call 37; (with_reducible refine (tilegrid_side.calls z t _ ht).mono ?_); rintro e w' ⟨rfl, ⟨nd, rfl⟩⟩; (try first | exact ⟨rfl, _, World.drewN_drewN _ _ _⟩ | exact ⟨rfl, _, Eq.trans (World.drewN_drewN _ _ _) (congrArg (World.drewN _) (Nat.add_assoc _ _ _))⟩)))
  go_wp2
  go_ret
  exact ⟨rfl, ⟨_, rfl⟩⟩
set_option maxHeartbeats 8000000 in
set_option maxRecDepth 100000 in
theorem tilegrid_Cover.calls (k : Nat) (a0_0 : Int) (a0_1 : Int) (a0_2 : Int) (a0_3 : Int) (a1 : Int) (r : List (S30)) (w : World) (h : tilegrid_Cover.f k a0_0 a0_1 a0_2 a0_3 a1 = some r) :
  Calls Try.prog 10 #[.agg #[.int .i64 a0_0, .int .i64 a0_1, .int .i64 a0_2, .int .i64 a0_3], .int .i64 a1] w fun e w' => ∃ v0_ : Value, e = .returned (v0_) ∧ Kd.R k30 30 w' w.heap.size (fun _ => True) v0_ r ∧ Below w.heap.size w w' := by
 have hu23 := Try.underlying23
 have hu30 := Try.underlying30
 have HB := Aside0.mk (Below.refl w.heap.size w)
 have H : ((tilegrid_Size.f a1).bind fun t108 => (if t108 = 0 then (tilegrid_Cover.j0 k true a0_0 a0_1 a0_2 a0_3 a1 t108) else ((grid_Check.f a0_0 a0_1 a0_2 a0_3).bind fun t109 => (tilegrid_Cover.j0 k (t109 != 0) a0_0 a0_1 a0_2 a0_3 a1 t108)))) = some r := h
 clear h
 replace H := Option.bind_eq_some_iff.mp H
 obtain ⟨t108, A30, H⟩ := H
 replace H : (if t108 = 0 then (tilegrid_Cover.j0 k true a0_0 a0_1 a0_2 a0_3 a1 t108) else ((grid_Check.f a0_0 a0_1 a0_2 a0_3).bind fun t109 => (tilegrid_Cover.j0 k (t109 != 0) a0_0 a0_1 a0_2 a0_3 a1 t108))) = some r := H
 have A3 := Aside0.mk A30
 clear A30
 have HC4 := Aside0.mk H
 clear H
 have hmf : ∀ (fn : Fn) (first cap : Array Value) (w : World), (Instr.makeFunc fn first cap).run Try.prog w = .ok (.func fn first cap) w := fun _ _ _ _ => rfl
 go_enter Try.func10, Try.ntmps10
 go_upto_region 1 with (first
  | ((with_reducible refine gate_dst (N := 2) rfl ?_); refine box_event ?hg (N := 2) ?hd (cs := #[.int .i64 a0_0, .int .i64 a0_1, .int .i64 a0_2, .int .i64 a0_3]) (t := 23) ?hr ?_; (case hd => rfl); (case hg => rfl); (case hr => first | (go_simp; done) | (go_simp; rfl)); intro gb hg w5 hbox hb; have n0_ := Aside0.mk (below_step HB.out hb); have BKB := Aside0.mk hbox; have GEB := Aside0.mk ((by rw [hg]; exact (below_size HB.out)) : w.heap.size ≤ gb); clear HB; have HB := n0_; clear n0_ hb hbox hg)
  | ((with_reducible refine gate_dst (N := 3) rfl ?_); refine box_event ?hg (N := 3) ?hd (cs := #[.int .i64 a1]) (t := 3) ?hr ?_; (case hd => rfl); (case hg => rfl); (case hr => first | (go_simp; done) | (go_simp; rfl)); intro gz hg w6 hbox hb; have n0_ := Aside0.mk (below_step HB.out hb); have n1_ := Aside0.mk (blk_below (g := gb) (o := .cells #[.int .i64 a0_0, .int .i64 a0_1, .int .i64 a0_2, .int .i64 a0_3] 23 (0, 0)) BKB.out hb); have BKZ := Aside0.mk hbox; have GEZ := Aside0.mk ((by rw [hg]; exact (below_size HB.out)) : w.heap.size ≤ gz); clear HB BKB; have HB := n0_; have BKB := n1_; clear n0_ n1_ hb hbox hg))
 have hcz0 : w6.cell? ⟨gz, 0, none⟩ = some (.int .i64 a1) := (blk_cell BKZ.out 0).trans rfl
 have hfz0 := blk_frozen BKZ.out 0
 go_upto_region 2 with (first
  | (go_at_call 19; (with_reducible refine (tilegrid_Size.calls a1 t108 _ A3.out).mono ?_); rintro e w' ⟨rfl, ⟨nd, rfl⟩⟩)
  | ((with_reducible refine gate_dst (N := 5) rfl ?_); refine box_event ?hg (N := 5) ?hd (cs := #[.int .i64 0]) (t := 3) ?hr ?_; (case hd => rfl); (case hg => rfl); (case hr => first | (go_simp; done) | (go_simp; rfl)); intro gn hg w7 hbox hb; have n0_ := Aside0.mk (below_step (by repeat (first | (with_reducible first | exact HB.out | apply pw_below_drewN | apply below_drew1) | exact HB.out)) hb); have n1_ := Aside0.mk (blk_below (g := gb) (o := .cells #[.int .i64 a0_0, .int .i64 a0_1, .int .i64 a0_2, .int .i64 a0_3] 23 (0, 0)) (by (with_reducible repeat (first | refine blk_drewN ?_ _ | refine blk_drew ?_)); exact BKB.out) hb); have n2_ := Aside0.mk (blk_below (g := gz) (o := .cells #[.int .i64 a1] 3 (0, 0)) (by (with_reducible repeat (first | refine blk_drewN ?_ _ | refine blk_drew ?_)); exact BKZ.out) hb); have BKN := Aside0.mk hbox; have GEN := Aside0.mk ((by rw [hg]; exact (below_size (by repeat (first | (with_reducible first | exact HB.out | apply pw_below_drewN | apply below_drew1) | exact HB.out)))) : w.heap.size ≤ gn); have hnb : gb ≠ gn := (by rw [hg]; exact Nat.ne_of_lt (blk_lt (by (with_reducible repeat (first | refine blk_drewN ?_ _ | refine blk_drew ?_)); exact BKB.out))); have hnz : gz ≠ gn := (by rw [hg]; exact Nat.ne_of_lt (blk_lt (by (with_reducible repeat (first | refine blk_drewN ?_ _ | refine blk_drew ?_)); exact BKZ.out))); clear HB BKB BKZ hcz0 hfz0; have HB := n0_; have BKB := n1_; have BKZ := n2_; clear n0_ n1_ n2_ hb hbox hg; have hcn0 : w7.cell? ⟨gn, 0, none⟩ = some (.int .i64 0) := (blk_cell BKN.out 0).trans rfl; have hfn0 := blk_frozen BKN.out 0))
 have N1 := Aside0.mk (blk_far (p := ⟨gn, 0, none⟩) BKB.out hnb (.int .i64 t108))
 have N2 := Aside0.mk (blk_far (p := ⟨gn, 0, none⟩) BKZ.out hnz (.int .i64 t108))
 have N3 : Aside0 ((w7.setCell ⟨gn, 0, none⟩ (.int .i64 t108)).heap[gn]? = some (.cells #[.int .i64 t108] 3 (0, 0))) := ⟨by refine blk_put (cs := #[.int .i64 0]) ?_ 0 _ rfl; exact BKN.out⟩
 have N4 := Aside0.mk (below_set (g := gn) (j := 0) (v := .int .i64 t108) HB.out GEN.out)
 clear hcn0 hfn0 BKB BKZ BKN HB
 generalize w7.setCell ⟨gn, 0, none⟩ (.int .i64 t108) = W at N1 N2 N3 N4 ⊢
 have BK107 := N1
 have BKZ := N2
 have BKN := N3
 have HB := N4
 clear N1 N2 N3 N4
 have hcn1 : W.cell? ⟨gn, 0, none⟩ = some (.int .i64 t108) := (blk_cell BKN.out 0).trans rfl
 have hfn1 := blk_frozen BKN.out 0
 (try simp only [Act.put, List.setIfInBounds_toArray, List.set_cons_zero, List.set_cons_succ])
 go_cut [23] (fun v23 wc => ∃ (kq : Nat) (x23_3 : Bool), v23 = .bool x23_3 ∧ Aside0 (tilegrid_Cover.j0 kq x23_3 a0_0 a0_1 a0_2 a0_3 a1 t108 = some r) ∧ Aside0 (kq ≤ k) ∧ Aside0 (wc.heap[gb]? = some (.cells #[.int .i64 a0_0, .int .i64 a0_1, .int .i64 a0_2, .int .i64 a0_3] 23 (0, 0))) ∧ Aside0 (wc.heap[gz]? = some (.cells #[.int .i64 a1] 3 (0, 0))) ∧ Aside0 (wc.heap[gn]? = some (.cells #[.int .i64 t108] 3 (0, 0))) ∧ Aside0 (Below w.heap.size w wc))
 case first =>
  have H := HC4.out
  clear HC4
  by_cases c6 : t108 = 0
  ·rw [if_pos c6] at H
   have c6b0 : (t108 == 0) = true := beq_iff_eq.mpr c6
   have c6b1 : (t108 != 0) = false := bne_eq_false_iff_eq.mpr c6
   clear c6
   (first | rw [c6b0] | (simp only [i64_w, i32_w]; rw [c6b0]) | skip)
   have H' := Aside0.mk H
   clear H
   go_wp2
   repeat (go_quiet (fail); try go_wp2)
   go_meet
   case rel => exact ⟨_, (true), (by first | rfl | (simp; done) | (simp [*]; done)), H', ⟨by first | omega | exact Nat.le_refl _⟩, ⟨by (with_reducible repeat first | apply blk_drewN | apply blk_drew | apply blk_alloc); exact BK107.out⟩, ⟨by (with_reducible repeat first | apply blk_drewN | apply blk_drew | apply blk_alloc); exact BKZ.out⟩, ⟨by (with_reducible repeat first | apply blk_drewN | apply blk_drew | apply blk_alloc); exact BKN.out⟩, ⟨by repeat (first | (with_reducible first | exact HB.out | apply below_alloc | apply pw_below_drewN | apply below_drew1 | apply below_drew1) | exact HB.out)⟩⟩
  ·rw [if_neg c6] at H
   have c6b0 : (t108 == 0) = false := beq_eq_false_iff_ne.mpr c6
   have c6b1 : (t108 != 0) = true := bne_iff_ne.mpr c6
   (first | rw [c6b0] | (simp only [i64_w, i32_w]; rw [c6b0]) | skip)
   replace H := Option.bind_eq_some_iff.mp H
   obtain ⟨t109, A70, H⟩ := H
   replace H : (tilegrid_Cover.j0 k (t109 != 0) a0_0 a0_1 a0_2 a0_3 a1 t108) = some r := H
   have A7 := Aside0.mk A70
   clear A70
   have H' := Aside0.mk H
   clear H
   have hcz8_0 : W.cell? ⟨gb, 0, none⟩ = some (.int .i64 a0_0) := (blk_cell BK107.out 0).trans rfl
   have hcz8_1 : W.cell? ⟨gb, 1, none⟩ = some (.int .i64 a0_1) := (blk_cell BK107.out 1).trans rfl
   have hcz8_2 : W.cell? ⟨gb, 2, none⟩ = some (.int .i64 a0_2) := (blk_cell BK107.out 2).trans rfl
   have hcz8_3 : W.cell? ⟨gb, 3, none⟩ = some (.int .i64 a0_3) := (blk_cell BK107.out 3).trans rfl
   have hfz8_0 := blk_frozen BK107.out 0
   have hfz8_1 := blk_frozen BK107.out 1
   have hfz8_2 := blk_frozen BK107.out 2
   have hfz8_3 := blk_frozen BK107.out 3
   go_wp2_with (first | (go_at_call 33; (with_reducible refine (grid_Check.calls a0_0 a0_1 a0_2 a0_3 t109 _ A7.out).mono ?_); rintro e w9 ⟨rfl, hb⟩; have n0_ := Aside0.mk (blk_below (g := gb) (o := .cells #[.int .i64 a0_0, .int .i64 a0_1, .int .i64 a0_2, .int .i64 a0_3] 23 (0, 0)) (by (with_reducible repeat first | apply blk_drewN | apply blk_drew | apply blk_alloc); exact BK107.out) hb); have nz_ := Aside0.mk (blk_below (g := gz) (o := .cells #[.int .i64 a1] 3 (0, 0)) (by (with_reducible repeat first | apply blk_drewN | apply blk_drew | apply blk_alloc); exact BKZ.out) hb); have nn_ := Aside0.mk (blk_below (g := gn) (o := .cells #[.int .i64 t108] 3 (0, 0)) (by (with_reducible repeat first | apply blk_drewN | apply blk_drew | apply blk_alloc); exact BKN.out) hb); have n1_ := Aside0.mk (below_step (by repeat (first | (with_reducible first | exact HB.out | apply below_alloc | apply pw_below_drewN | apply below_drew1 | apply below_drew1) | exact HB.out)) hb); clear BK107 HB BKZ BKN; have BK107 := n0_; have BKZ := nz_; have BKN := nn_; have HB := n1_; clear n0_ n1_ nz_ nn_; (try clear hb); (try clear hb2); (try clear hk); (try clear hi)))
   repeat (go_quiet (first | (go_at_call 33; (with_reducible refine (grid_Check.calls a0_0 a0_1 a0_2 a0_3 t109 _ A7.out).mono ?_); rintro e w9 ⟨rfl, hb⟩; have n0_ := Aside0.mk (blk_below (g := gb) (o := .cells #[.int .i64 a0_0, .int .i64 a0_1, .int .i64 a0_2, .int .i64 a0_3] 23 (0, 0)) (by (with_reducible repeat first | apply blk_drewN | apply blk_drew | apply blk_alloc); exact BK107.out) hb); have nz_ := Aside0.mk (blk_below (g := gz) (o := .cells #[.int .i64 a1] 3 (0, 0)) (by (with_reducible repeat first | apply blk_drewN | apply blk_drew | apply blk_alloc); exact BKZ.out) hb); have nn_ := Aside0.mk (blk_below (g := gn) (o := .cells #[.int .i64 t108] 3 (0, 0)) (by (with_reducible repeat first | apply blk_drewN | apply blk_drew | apply blk_alloc); exact BKN.out) hb); have n1_ := Aside0.mk (below_step (by repeat (first | (with_reducible first | exact HB.out | apply below_alloc | apply pw_below_drewN | apply below_drew1 | apply below_drew1) | exact HB.out)) hb); clear BK107 HB BKZ BKN; have BK107 := n0_; have BKZ := nz_; have BKN := nn_; have HB := n1_; clear n0_ n1_ nz_ nn_; (try clear hb); (try clear hb2); (try clear hk); (try clear hi))); try go_wp2_with (first | (go_at_call 33; (with_reducible refine (grid_Check.calls a0_0 a0_1 a0_2 a0_3 t109 _ A7.out).mono ?_); rintro e w9 ⟨rfl, hb⟩; have n0_ := Aside0.mk (blk_below (g := gb) (o := .cells #[.int .i64 a0_0, .int .i64 a0_1, .int .i64 a0_2, .int .i64 a0_3] 23 (0, 0)) (by (with_reducible repeat first | apply blk_drewN | apply blk_drew | apply blk_alloc); exact BK107.out) hb); have nz_ := Aside0.mk (blk_below (g := gz) (o := .cells #[.int .i64 a1] 3 (0, 0)) (by (with_reducible repeat first | apply blk_drewN | apply blk_drew | apply blk_alloc); exact BKZ.out) hb); have nn_ := Aside0.mk (blk_below (g := gn) (o := .cells #[.int .i64 t108] 3 (0, 0)) (by (with_reducible repeat first | apply blk_drewN | apply blk_drew | apply blk_alloc); exact BKN.out) hb); have n1_ := Aside0.mk (below_step (by repeat (first | (with_reducible first | exact HB.out | apply below_alloc | apply pw_below_drewN | apply below_drew1 | apply below_drew1) | exact HB.out)) hb); clear BK107 HB BKZ BKN; have BK107 := n0_; have BKZ := nz_; have BKN := nn_; have HB := n1_; clear n0_ n1_ nz_ nn_; (try clear hb); (try clear hb2); (try clear hk); (try clear hi))))
   go_meet
   case rel => exact ⟨_, ((t109 != 0)), (by first | rfl | (simp; done) | (simp [*]; done)), H', ⟨by first | omega | exact Nat.le_refl _⟩, ⟨by (with_reducible repeat first | apply blk_drewN | apply blk_drew | apply blk_alloc); exact BK107.out⟩, ⟨by (with_reducible repeat first | apply blk_drewN | apply blk_drew | apply blk_alloc); exact BKZ.out⟩, ⟨by (with_reducible repeat first | apply blk_drewN | apply blk_drew | apply blk_alloc); exact BKN.out⟩, ⟨by repeat (first | (with_reducible first | exact HB.out | apply below_alloc | apply pw_below_drewN | apply below_drew1 | apply below_drew1) | exact HB.out)⟩⟩
 case rest =>
  clear HC4
  try clear c1
  try clear p2
  try clear c6
  try clear c6b0
  try clear c6b1
  try clear hcz8_0
  try clear hcz8_1
  try clear hcz8_2
  try clear hcz8_3
  try clear hfz8_0
  try clear hfz8_1
  try clear hfz8_2
  try clear hfz8_3
  obtain ⟨kq, x23_3, rfl, HA, HJ3, BK107, BKZ, BKN, HB⟩ := hcut
  clear hcn1 hfn1
  have H := HA.out
  clear HA
  simp only [tilegrid_Cover.j0] at H
  by_cases c10 : x23_3 = true
  ·subst c10
   have H1 : (some ([] : List (S30))) = some r := by rw [if_pos rfl] at H; exact H
   clear H
   have H := H1
   clear H1
   obtain rfl := Option.some.inj H
   go_wp2
   repeat (go_quiet (fail); try go_wp2)
   go_ret
   exact ⟨_, by first | rfl | (simp [errW_none, errW_some] <;> rfl) | (simp [*, errW_none, errW_some] <;> rfl), by first | exact Kd.R_nil _ _ _ _ _ | exact Kd.N_nil _ _ _ _ _ | exact Kd.V_nil _ _ _ _ _ | exact Kd.Q_nil _ _ _ _ _ | exact Kd.S_nil _ _ _ _ _, by repeat (first | (with_reducible first | exact HB.out | apply below_alloc | apply pw_below_drewN | apply below_drew1 | apply below_drew1) | exact HB.out)⟩
  ·replace c10 := Bool.eq_false_iff.mpr c10
   subst c10
   have H1 : ((tilegrid_first.f t108 a0_0).bind fun t110 => ((tilegrid_last.f a1 t108 a0_2).bind fun t111 => ((tilegrid_first.f t108 a0_1).bind fun t112 => ((tilegrid_last.f a1 t108 a0_3).bind fun t113 => (tilegrid_Cover.l0 kq t110 t111 t112 ([] : List (S30)) (wrap64 ((wrap64 (t113 - t112)) + 1)) 0 a1))))) = some r := by rw [if_neg (show ¬ (false = true) by decide)] at H; exact H
   clear H
   have H := H1
   clear H1
   replace H := Option.bind_eq_some_iff.mp H
   obtain ⟨t110, A110, H⟩ := H
   replace H : ((tilegrid_last.f a1 t108 a0_2).bind fun t111 => ((tilegrid_first.f t108 a0_1).bind fun t112 => ((tilegrid_last.f a1 t108 a0_3).bind fun t113 => (tilegrid_Cover.l0 kq t110 t111 t112 ([] : List (S30)) (wrap64 ((wrap64 (t113 - t112)) + 1)) 0 a1)))) = some r := H
   have A11 := Aside0.mk A110
   clear A110
   replace H := Option.bind_eq_some_iff.mp H
   obtain ⟨t111, A120, H⟩ := H
   replace H : ((tilegrid_first.f t108 a0_1).bind fun t112 => ((tilegrid_last.f a1 t108 a0_3).bind fun t113 => (tilegrid_Cover.l0 kq t110 t111 t112 ([] : List (S30)) (wrap64 ((wrap64 (t113 - t112)) + 1)) 0 a1))) = some r := H
   have A12 := Aside0.mk A120
   clear A120
   replace H := Option.bind_eq_some_iff.mp H
   obtain ⟨t112, A130, H⟩ := H
   replace H : ((tilegrid_last.f a1 t108 a0_3).bind fun t113 => (tilegrid_Cover.l0 kq t110 t111 t112 ([] : List (S30)) (wrap64 ((wrap64 (t113 - t112)) + 1)) 0 a1)) = some r := H
   have A13 := Aside0.mk A130
   clear A130
   replace H := Option.bind_eq_some_iff.mp H
   obtain ⟨t113, A140, H⟩ := H
   replace H : (tilegrid_Cover.l0 kq t110 t111 t112 ([] : List (S30)) (wrap64 ((wrap64 (t113 - t112)) + 1)) 0 a1) = some r := H
   have A14 := Aside0.mk A140
   clear A140
   have H' := Aside0.mk H
   clear H
   have hcz15_0 : wc.cell? ⟨gb, 0, none⟩ = some (.int .i64 a0_0) := (blk_cell BK107.out 0).trans rfl
   have hcz15_1 : wc.cell? ⟨gb, 1, none⟩ = some (.int .i64 a0_1) := (blk_cell BK107.out 1).trans rfl
   have hcz15_2 : wc.cell? ⟨gb, 2, none⟩ = some (.int .i64 a0_2) := (blk_cell BK107.out 2).trans rfl
   have hcz15_3 : wc.cell? ⟨gb, 3, none⟩ = some (.int .i64 a0_3) := (blk_cell BK107.out 3).trans rfl
   have hfz15_0 := blk_frozen BK107.out 0
   have hfz15_1 := blk_frozen BK107.out 1
   have hfz15_2 := blk_frozen BK107.out 2
   have hfz15_3 := blk_frozen BK107.out 3
   have hcn2 : wc.cell? ⟨gn, 0, none⟩ = some (.int .i64 t108) := (blk_cell BKN.out 0).trans rfl
   have hcz2 : wc.cell? ⟨gz, 0, none⟩ = some (.int .i64 a1) := (blk_cell BKZ.out 0).trans rfl
   go_wp2
   go_quiet (first | (go_at_call 34; (with_reducible refine (tilegrid_first.calls t108 a0_0 t110 gn _ (by (try simp only [World.cell?_drewN]); first | exact hcn2 | assumption) A11.out).mono ?_); rintro e w' ⟨rfl, ⟨nd, rfl⟩⟩; (try first | exact ⟨rfl, _, World.drewN_drewN _ _ _⟩ | exact ⟨rfl, _, Eq.trans (World.drewN_drewN _ _ _) (congrArg (World.drewN _) (Nat.add_assoc _ _ _))⟩)) | (go_at_call 36; (with_reducible refine (tilegrid_last.calls a1 t108 a0_2 t111 gz gn _ (by (try simp only [World.cell?_drewN]); first | exact hcz2 | assumption) (by (try simp only [World.cell?_drewN]); first | exact hcn2 | assumption) A12.out).mono ?_); rintro e w' ⟨rfl, ⟨nd, rfl⟩⟩; (try first | exact ⟨rfl, _, World.drewN_drewN _ _ _⟩ | exact ⟨rfl, _, Eq.trans (World.drewN_drewN _ _ _) (congrArg (World.drewN _) (Nat.add_assoc _ _ _))⟩)) | (go_at_call 34; (with_reducible refine (tilegrid_first.calls t108 a0_1 t112 gn _ (by (try simp only [World.cell?_drewN]); first | exact hcn2 | assumption) A13.out).mono ?_); rintro e w' ⟨rfl, ⟨nd, rfl⟩⟩; (try first | exact ⟨rfl, _, World.drewN_drewN _ _ _⟩ | exact ⟨rfl, _, Eq.trans (World.drewN_drewN _ _ _) (congrArg (World.drewN _) (Nat.add_assoc _ _ _))⟩)) | (go_at_call 36; (with_reducible refine (tilegrid_last.calls a1 t108 a0_3 t113 gz gn _ (by (try simp only [World.cell?_drewN]); first | exact hcz2 | assumption) (by (try simp only [World.cell?_drewN]); first | exact hcn2 | assumption) A14.out).mono ?_); rintro e w' ⟨rfl, ⟨nd, rfl⟩⟩; (try first | exact ⟨rfl, _, World.drewN_drewN _ _ _⟩ | exact ⟨rfl, _, Eq.trans (World.drewN_drewN _ _ _) (congrArg (World.drewN _) (Nat.add_assoc _ _ _))⟩)))
   go_wp2
   go_loopg [12, 46] kq (fun kq v12 v46 w' => ∃ (x12_2 : List (S30)) (x46_2 : Int), v46 = .int .i64 x46_2 ∧ Aside0 (tilegrid_Cover.l0 kq t110 t111 t112 x12_2 (wrap64 ((wrap64 (t113 - t112)) + 1)) x46_2 a1 = some r) ∧ Aside0 (kq ≤ kq) ∧ Aside0 (Kd.R k30 30 w' w.heap.size (fun _ => True) v12 x12_2) ∧ Aside0 (w'.heap[gz]? = some (.cells #[.int .i64 a1] 3 (0, 0))) ∧ Aside0 (Below w.heap.size w w'))
   case atStart => exact ⟨(([] : List (S30))), (0), (by first | rfl | (simp; done) | (simp [*]; done)), H', ⟨Nat.le_refl _⟩, ⟨by first | exact Kd.R_nil _ _ _ _ _ | exact Kd.N_nil _ _ _ _ _ | exact Kd.V_nil _ _ _ _ _ | exact Kd.Q_nil _ _ _ _ _ | exact Kd.S_nil _ _ _ _ _⟩, ⟨by (with_reducible repeat first | apply blk_drewN | apply blk_drew | apply blk_alloc); exact BKZ.out⟩, ⟨by repeat (first | (with_reducible first | exact HB.out | apply below_alloc | apply pw_below_drewN | apply below_drew1 | apply below_drew1) | exact HB.out)⟩⟩
   case round =>
    clear H'
    try clear c1
    try clear p2
    try clear c6
    try clear c6b0
    try clear c6b1
    try clear p6
    try clear c10
    try clear hcz15_0
    try clear hcz15_1
    try clear hcz15_2
    try clear hcz15_3
    try clear hcz8_0
    try clear hcz8_1
    try clear hcz8_2
    try clear hcz8_3
    try clear hfz15_0
    try clear hfz15_1
    try clear hfz15_2
    try clear hfz15_3
    try clear hfz8_0
    try clear hfz8_1
    try clear hfz8_2
    try clear hfz8_3
    try clear p2
    obtain ⟨x12_2, x46_2, rfl, HA, HK2, HO_12, BKZ, HB⟩ := hrel
    cases gk with
    | zero => exact absurd HA.out (by simp [tilegrid_Cover.l0])
    | succ k2 =>
     have H := HA.out
     clear HA
     simp only [tilegrid_Cover.l0] at H
     by_cases c16 : x46_2 < (wrap64 ((wrap64 (t113 - t112)) + 1))
     ·rw [if_pos c16] at H
      have c16b0 : decide (x46_2 < (wrap64 ((wrap64 (t113 - t112)) + 1))) = true := decide_eq_true c16
      clear c16
      have H' := Aside0.mk H
      clear H
      go_wp2
      repeat (go_quiet (fail); try go_wp2)
      go_loopg [12, 53] k2 (fun kq v12 v53 w' => ∃ (x12_3 : List (S30)) (x53_3 : Int), v53 = .int .i64 x53_3 ∧ Aside0 (tilegrid_Cover.l1 kq t110 t111 t112 x12_3 x46_2 (wrap64 ((wrap64 (t113 - t112)) + 1)) x46_2 (wrap64 ((wrap64 (t111 - t110)) + 1)) x53_3 a1 = some r) ∧ Aside0 (kq ≤ k2) ∧ Aside0 (Kd.R k30 30 w' w.heap.size (fun _ => True) v12 x12_3) ∧ Aside0 (w'.heap[gz]? = some (.cells #[.int .i64 a1] 3 (0, 0))) ∧ Aside0 (Below w.heap.size w w'))
      case atStart => exact ⟨(x12_2), (0), (by first | rfl | (simp; done) | (simp [*]; done)), H', ⟨Nat.le_refl _⟩, ⟨by (with_reducible repeat (first | apply Kd.R_alloc | apply Kd.R_drewN | apply Kd.R_drew)); exact HO_12.out⟩, ⟨by (with_reducible repeat first | apply blk_drewN | apply blk_drew | apply blk_alloc); exact BKZ.out⟩, ⟨by repeat (first | (with_reducible first | exact HB.out | apply below_alloc | apply pw_below_drewN | apply below_drew1 | apply below_drew1) | exact HB.out)⟩⟩
      case round =>
       clear H'
       try clear c1
       try clear p2
       try clear c6
       try clear c6b0
       try clear c6b1
       try clear p6
       try clear c10
       try clear c16
       try clear c16b0
       try clear hcz15_0
       try clear hcz15_1
       try clear hcz15_2
       try clear hcz15_3
       try clear hcz8_0
       try clear hcz8_1
       try clear hcz8_2
       try clear hcz8_3
       try clear hfz15_0
       try clear hfz15_1
       try clear hfz15_2
       try clear hfz15_3
       try clear hfz8_0
       try clear hfz8_1
       try clear hfz8_2
       try clear hfz8_3
       try clear p2
       try clear p6
       obtain ⟨x12_3, x53_3, rfl, HA, HK3, HO_12, BKZ, HB⟩ := hrel
       cases gk with
       | zero => exact absurd HA.out (by simp [tilegrid_Cover.l1])
       | succ k3 =>
        have H := HA.out
        clear HA
        simp only [tilegrid_Cover.l1] at H
        by_cases c17 : x53_3 < (wrap64 ((wrap64 (t111 - t110)) + 1))
        ·rw [if_pos c17] at H
         have c17b0 : decide (x53_3 < (wrap64 ((wrap64 (t111 - t110)) + 1))) = true := decide_eq_true c17
         clear c17
         by_cases c18 : x12_3.length < 5864062014805
         ·rw [if_pos c18] at H
          have LMc18 := Aside0.mk c18
          clear c18
          obtain ⟨y114, hy114⟩ : ∃ y_ : List (S30), y_ = (x12_3 ++ [(⟨a1, wrap64 (t110 + x53_3), wrap64 (t112 + x46_2)⟩ : S30)]) := ⟨_, rfl⟩
          replace H : (tilegrid_Cover.l1 k3 t110 t111 t112 y114 x46_2 (wrap64 ((wrap64 (t113 - t112)) + 1)) x46_2 (wrap64 ((wrap64 (t111 - t110)) + 1)) (wrap64 (x53_3 + 1)) a1) = some r := by first | (rw [hy114]; with_reducible exact H) | (have H2_ := (Option.bind_some _ _).symm.trans H; rw [hy114]; with_reducible exact H2_) | (have H2_ := (Option.bind_some _ _).symm.trans H; with_reducible exact H2_) | with_reducible exact H | (rw [hy114]; exact H) | exact H
          have Ny114 := Aside0.mk hy114
          clear hy114
          have H' := Aside0.mk H
          clear H
          have hcz19_0 : wr.cell? ⟨gz, 0, none⟩ = some (.int .i64 a1) := (blk_cell BKZ.out 0).trans rfl
          have hfz19_0 := blk_frozen BKZ.out 0
          go_wp2_with (first | ((with_reducible refine gate_builtin (b := .append) (xs := #[.tmp 56, .tmp 65]) rfl ?_); at_builtin; refine Kd.R_append k30 (w0 := w) w.heap.size rfl (.tmp 56) (.tmp 65) 25 30 (.agg #[(.int .i64 0), (.int .i64 0), (.int .i64 0)]) 24 rfl Try.underlying25 info30 rfl (by decide) (by omega) u12 x12_3 (⟨a1, wrap64 (t110 + x53_3), wrap64 (t112 + x46_2)⟩ : S30) [.int .i64 a1, .int .i64 (wrap64 (t110 + x53_3)), .int .i64 (wrap64 (t112 + x46_2))] (fun _ => True) (fun _ => False) rfl rfl ?aP (fun _ hk => hk.elim) ?aF ?aO ?aB ?aS ?aL ?_; (case aP => exact k30_mkM _ _ _ (⟨a1, wrap64 (t110 + x53_3), wrap64 (t112 + x46_2)⟩ : S30)); (case aB => exact (by repeat (first | (with_reducible first | exact HB.out | apply below_alloc | apply pw_below_drewN | apply below_drew1 | apply below_drew1) | exact HB.out))); (case aF => exact (fun _ _ => trivial)); (case aO => exact (by (with_reducible repeat (first | apply Kd.R_alloc | apply Kd.R_drewN | apply Kd.R_drew)); exact HO_12.out)); (case aS => exact (below_size (by repeat (first | (with_reducible first | exact HB.out | apply below_alloc | apply pw_below_drewN | apply below_drew1 | apply below_drew1) | exact HB.out)))); (case aL => have := LMc18.out; omega); intro v115 w20 ho hb hg hat; rw [← Ny114.out] at ho; have n0_ := Aside0.mk (blk_grown (g := gz) (o := .cells #[.int .i64 a1] 3 (0, 0)) (by (with_reducible repeat first | apply blk_drewN | apply blk_drew | apply blk_alloc); exact BKZ.out) hg (Kd.R_ne HO_12.out BKZ.out (by decide))); have n1_ := Aside0.mk (hb); have n2_ := Aside0.mk (ho); clear BKZ HB HO_12; have BKZ := n0_; have HB := n1_; have HO116 := n2_; clear n0_ n1_ n2_ ho hb hg hat))
          repeat (go_quiet (first | ((with_reducible refine gate_builtin (b := .append) (xs := #[.tmp 56, .tmp 65]) rfl ?_); at_builtin; refine Kd.R_append k30 (w0 := w) w.heap.size rfl (.tmp 56) (.tmp 65) 25 30 (.agg #[(.int .i64 0), (.int .i64 0), (.int .i64 0)]) 24 rfl Try.underlying25 info30 rfl (by decide) (by omega) u12 x12_3 (⟨a1, wrap64 (t110 + x53_3), wrap64 (t112 + x46_2)⟩ : S30) [.int .i64 a1, .int .i64 (wrap64 (t110 + x53_3)), .int .i64 (wrap64 (t112 + x46_2))] (fun _ => True) (fun _ => False) rfl rfl ?aP (fun _ hk => hk.elim) ?aF ?aO ?aB ?aS ?aL ?_; (case aP => exact k30_mkM _ _ _ (⟨a1, wrap64 (t110 + x53_3), wrap64 (t112 + x46_2)⟩ : S30)); (case aB => exact (by repeat (first | (with_reducible first | exact HB.out | apply below_alloc | apply pw_below_drewN | apply below_drew1 | apply below_drew1) | exact HB.out))); (case aF => exact (fun _ _ => trivial)); (case aO => exact (by (with_reducible repeat (first | apply Kd.R_alloc | apply Kd.R_drewN | apply Kd.R_drew)); exact HO_12.out)); (case aS => exact (below_size (by repeat (first | (with_reducible first | exact HB.out | apply below_alloc | apply pw_below_drewN | apply below_drew1 | apply below_drew1) | exact HB.out)))); (case aL => have := LMc18.out; omega); intro v115 w20 ho hb hg hat; rw [← Ny114.out] at ho; have n0_ := Aside0.mk (blk_grown (g := gz) (o := .cells #[.int .i64 a1] 3 (0, 0)) (by (with_reducible repeat first | apply blk_drewN | apply blk_drew | apply blk_alloc); exact BKZ.out) hg (Kd.R_ne HO_12.out BKZ.out (by decide))); have n1_ := Aside0.mk (hb); have n2_ := Aside0.mk (ho); clear BKZ HB HO_12; have BKZ := n0_; have HB := n1_; have HO116 := n2_; clear n0_ n1_ n2_ ho hb hg hat)); try go_wp2_with (first | ((with_reducible refine gate_builtin (b := .append) (xs := #[.tmp 56, .tmp 65]) rfl ?_); at_builtin; refine Kd.R_append k30 (w0 := w) w.heap.size rfl (.tmp 56) (.tmp 65) 25 30 (.agg #[(.int .i64 0), (.int .i64 0), (.int .i64 0)]) 24 rfl Try.underlying25 info30 rfl (by decide) (by omega) u12 x12_3 (⟨a1, wrap64 (t110 + x53_3), wrap64 (t112 + x46_2)⟩ : S30) [.int .i64 a1, .int .i64 (wrap64 (t110 + x53_3)), .int .i64 (wrap64 (t112 + x46_2))] (fun _ => True) (fun _ => False) rfl rfl ?aP (fun _ hk => hk.elim) ?aF ?aO ?aB ?aS ?aL ?_; (case aP => exact k30_mkM _ _ _ (⟨a1, wrap64 (t110 + x53_3), wrap64 (t112 + x46_2)⟩ : S30)); (case aB => exact (by repeat (first | (with_reducible first | exact HB.out | apply below_alloc | apply pw_below_drewN | apply below_drew1 | apply below_drew1) | exact HB.out))); (case aF => exact (fun _ _ => trivial)); (case aO => exact (by (with_reducible repeat (first | apply Kd.R_alloc | apply Kd.R_drewN | apply Kd.R_drew)); exact HO_12.out)); (case aS => exact (below_size (by repeat (first | (with_reducible first | exact HB.out | apply below_alloc | apply pw_below_drewN | apply below_drew1 | apply below_drew1) | exact HB.out)))); (case aL => have := LMc18.out; omega); intro v115 w20 ho hb hg hat; rw [← Ny114.out] at ho; have n0_ := Aside0.mk (blk_grown (g := gz) (o := .cells #[.int .i64 a1] 3 (0, 0)) (by (with_reducible repeat first | apply blk_drewN | apply blk_drew | apply blk_alloc); exact BKZ.out) hg (Kd.R_ne HO_12.out BKZ.out (by decide))); have n1_ := Aside0.mk (hb); have n2_ := Aside0.mk (ho); clear BKZ HB HO_12; have BKZ := n0_; have HB := n1_; have HO116 := n2_; clear n0_ n1_ n2_ ho hb hg hat)))
          go_roundg k3
          case measure => have := HJ3.out; have := HK2.out; have := HK3.out; omega
          case rel => exact ⟨(y114), (wrap64 (x53_3 + 1)), (by first | rfl | (simp; done) | (simp [*]; done)), H', ⟨by have := HJ3.out; have := HK2.out; have := HK3.out; omega⟩, ⟨by (with_reducible repeat (first | apply Kd.R_alloc | apply Kd.R_drewN | apply Kd.R_drew)); exact HO116.out⟩, ⟨by (with_reducible repeat first | apply blk_drewN | apply blk_drew | apply blk_alloc); exact BKZ.out⟩, ⟨by repeat (first | (with_reducible first | exact HB.out | apply below_alloc | apply pw_below_drewN | apply below_drew1 | apply below_drew1) | exact HB.out)⟩⟩
         ·rw [if_neg c18] at H
          exact absurd H (by simp)
        ·rw [if_neg c17] at H
         have c17b0 : decide (x53_3 < (wrap64 ((wrap64 (t111 - t110)) + 1))) = false := decide_eq_false c17
         clear c17
         have H' := Aside0.mk H
         clear H
         go_wp2
         repeat (go_quiet (fail); try go_wp2)
         go_roundg k3
         case measure => have := HJ3.out; have := HK2.out; have := HK3.out; omega
         case rel => exact ⟨(x12_3), (wrap64 (x46_2 + 1)), (by first | rfl | (simp; done) | (simp [*]; done)), H', ⟨by have := HJ3.out; have := HK2.out; have := HK3.out; omega⟩, ⟨by (with_reducible repeat (first | apply Kd.R_alloc | apply Kd.R_drewN | apply Kd.R_drew)); exact HO_12.out⟩, ⟨by (with_reducible repeat first | apply blk_drewN | apply blk_drew | apply blk_alloc); exact BKZ.out⟩, ⟨by repeat (first | (with_reducible first | exact HB.out | apply below_alloc | apply pw_below_drewN | apply below_drew1 | apply below_drew1) | exact HB.out)⟩⟩
     ·rw [if_neg c16] at H
      have c16b0 : decide (x46_2 < (wrap64 ((wrap64 (t113 - t112)) + 1))) = false := decide_eq_false c16
      clear c16
      obtain rfl := Option.some.inj H
      go_wp2
      repeat (go_quiet (fail); try go_wp2)
      go_ret
      exact ⟨_, by first | rfl | (simp [errW_none, errW_some] <;> rfl) | (simp [*, errW_none, errW_some] <;> rfl), by (with_reducible repeat (first | apply Kd.R_alloc | apply Kd.R_drewN | apply Kd.R_drew)); exact HO_12.out, by repeat (first | (with_reducible first | exact HB.out | apply below_alloc | apply pw_below_drewN | apply below_drew1 | apply below_drew1) | exact HB.out)⟩


end Go.Proofs.Ytdmobbbegdknkaa.PAll
