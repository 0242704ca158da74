-- Written by a program of this session (wip/tools), over the words that print.sh lays. (slim)
import Derived.Test.YtgjeiddccfmodaaPAllx0
import Derived.Test.YtgjeiddccfmodaaPAllx21
namespace Go.Proofs.Ytgjeiddccfmodaa.PAll
open Go.RowKit Go.Proofs.YtgjeiddccfmodaaW.PrintWords Go.Proofs.YtgjeiddccfmodaaW.PrintLast Go.Proofs.YtgjeiddccfmodaaW.PrintMore
attribute [local go_sem] max2_int min2_int max_two min_two max_three min_three max_four min_four   -- for this text's walks alone
set_option linter.unusedVariables false
set_option linter.unusedSimpArgs false
attribute [local irreducible] Calls

/-! ### num_CmpMul: function 35 -/
def num_CmpMul.f (k : Nat) (a0 a1 a2 a3 : Int) : Option Int :=
 (num_product.f k a0 a1).bind fun p => (num_product.f k a2 a3).bind fun q =>
  if p.2.2 < q.2.2 then some (-1) else if q.2.2 < p.2.2 then some 1
  else if p.1 < q.1 then some (wrap64 (-p.2.2)) else if q.1 < p.1 then some p.2.2
  else if p.2.1 < q.2.1 then some (wrap64 (-p.2.2)) else if q.2.1 < p.2.1 then some p.2.2 else some 0
theorem num_CmpMul.mono : ∀ a0 a1 a2 a3 k, LeO (num_CmpMul.f k a0 a1 a2 a3) (num_CmpMul.f (k + 1) a0 a1 a2 a3) := by
 intro a0 a1 a2 a3 k
 unfold num_CmpMul.f
 exact LeO.bind (num_product.mono _ _ _) (fun _ => LeO.bind (num_product.mono _ _ _) (fun _ => LeO.refl _))
set_option maxHeartbeats 2000000 in
set_option maxRecDepth 100000 in
theorem num_CmpMul.calls (k : Nat) (a0 a1 a2 a3 : Int) (r : Int) (w : World) (h : num_CmpMul.f k a0 a1 a2 a3 = some r) :
  Calls Try.prog 35 #[.int .i64 a0, .int .i64 a1, .int .i64 a2, .int .i64 a3] w fun e w' => e = .returned (.int .i64 r) ∧ Below w.heap.size w w' := by
 unfold num_CmpMul.f at h
 obtain ⟨⟨p1, p2, ps⟩, hp, h⟩ := Option.bind_eq_some_iff.1 h
 obtain ⟨⟨q1, q2, qs⟩, hq, h⟩ := Option.bind_eq_some_iff.1 h
 dsimp only at h
 have HP := Aside0.mk hp
 have HQ := Aside0.mk hq
 have HH := Aside0.mk h
 clear hp hq h
 have hu45 := Try.underlying45
 have HB := Aside0.mk (Below.refl w.heap.size w)
 go_enter Try.func35, Try.ntmps35
 go_upto_block 0 with (first
  | ((with_reducible refine gate_callee (f := 40) rfl ?_); refine goesL_ (some 17) rfl rfl Try.func40 (by kernel_rfl) rfl #[.int .i64 a0, .int .i64 a1] rfl (by (try simp only [List.map_toArray, List.map_cons, List.map_nil]); first | done | rfl) ?_; (with_reducible refine (num_product.calls k a0 a1 p1 p2 ps _ HP.out).mono ?_); rintro e w1 ⟨rfl, hb⟩; refine ⟨_, rfl, ?_⟩; have n0_ := Aside0.mk (below_step HB.out hb); clear HB hb; have HB := n0_; clear n0_)
  | ((with_reducible refine gate_dst (N := 9) rfl ?_); refine box_event ?hg (N := 9) ?hd (cs := #[.int .u64 0, .int .u64 0]) (t := 45) ?hr ?_; (case hd => rfl); (case hg => rfl); (case hr => first | (go_simp; done) | (go_simp; rfl)); intro g1 hg w2 hbox hb; have n0_ := Aside0.mk (below_step HB.out hb); have BK1 := Aside0.mk hbox; have GE1 := Aside0.mk ((by rw [hg]; exact (below_size HB.out)) : w.heap.size ≤ g1); clear HB; have HB := n0_; clear n0_ hb hbox hg; have hcz1_0 : w2.cell? ⟨g1, 0, none⟩ = some (.int .u64 0) := (blk_cell BK1.out 0).trans rfl; have hcz1_1 : w2.cell? ⟨g1, 1, none⟩ = some (.int .u64 0) := (blk_cell BK1.out 1).trans rfl; have hfz1_0 := blk_frozen BK1.out 0; have hfz1_1 := blk_frozen BK1.out 1)
  | ((with_reducible refine gate_callee (f := 40) rfl ?_); refine goesL_ (some 23) rfl rfl Try.func40 (by kernel_rfl) rfl #[.int .i64 a2, .int .i64 a3] rfl (by (try simp only [List.map_toArray, List.map_cons, List.map_nil]); first | done | rfl) ?_; (with_reducible refine (num_product.calls k a2 a3 q1 q2 qs _ HQ.out).mono ?_); rintro e w3 ⟨rfl, hb⟩; refine ⟨_, rfl, ?_⟩; have n0_ := Aside0.mk (below_step (below_set (below_set HB.out GE1.out) GE1.out) hb); have n1_ := Aside0.mk (blk_below (g := g1) (o := .cells #[.int .u64 p1, .int .u64 p2] 45 (0, 0)) (by refine blk_put (cs := #[.int .u64 p1, .int .u64 0]) ?_ 1 _ rfl; refine blk_put (cs := #[.int .u64 0, .int .u64 0]) ?_ 0 _ rfl; exact BK1.out) hb); clear HB hb BK1 hcz1_0 hcz1_1 hfz1_0 hfz1_1; have HB := n0_; have BK1 := n1_; clear n0_ n1_)
  | ((with_reducible refine gate_dst (N := 11) rfl ?_); refine box_event ?hg (N := 11) ?hd (cs := #[.int .u64 0, .int .u64 0]) (t := 45) ?hr ?_; (case hd => rfl); (case hg => rfl); (case hr => first | (go_simp; done) | (go_simp; rfl)); intro g2 hg w4 hbox hb; have n0_ := Aside0.mk (below_step HB.out hb); have n1_ := Aside0.mk (blk_below (g := g1) (o := .cells #[.int .u64 p1, .int .u64 p2] 45 (0, 0)) BK1.out hb); have BK2 := Aside0.mk hbox; have GE2 := Aside0.mk ((by rw [hg]; exact (below_size HB.out)) : w.heap.size ≤ g2); have hnb : g1 ≠ g2 := (by rw [hg]; exact Nat.ne_of_lt (blk_lt BK1.out)); have hnc : g2 ≠ g1 := hnb.symm; clear HB BK1; have HB := n0_; have BK1 := n1_; clear n0_ n1_ hb hbox hg; have hcz1_0 : w4.cell? ⟨g1, 0, none⟩ = some (.int .u64 p1) := (blk_cell BK1.out 0).trans rfl; have hcz1_1 : w4.cell? ⟨g1, 1, none⟩ = some (.int .u64 p2) := (blk_cell BK1.out 1).trans rfl; have hcz2_0 : w4.cell? ⟨g2, 0, none⟩ = some (.int .u64 0) := (blk_cell BK2.out 0).trans rfl; have hcz2_1 : w4.cell? ⟨g2, 1, none⟩ = some (.int .u64 0) := (blk_cell BK2.out 1).trans rfl; have hfz2_0 := blk_frozen BK2.out 0; have hfz2_1 := blk_frozen BK2.out 1))
 have N1 := Aside0.mk (blk_far (p := ⟨g2, 1, none⟩) (blk_far (p := ⟨g2, 0, none⟩) BK1.out hnb (.int .u64 q1)) hnb (.int .u64 q2))
 have N2 : Aside0 (((w4.setCell ⟨g2, 0, none⟩ (.int .u64 q1)).setCell ⟨g2, 1, none⟩ (.int .u64 q2)).heap[g2]? = some (.cells #[.int .u64 q1, .int .u64 q2] 45 (0, 0))) := ⟨by refine blk_put (cs := #[.int .u64 q1, .int .u64 0]) ?_ 1 _ rfl; refine blk_put (cs := #[.int .u64 0, .int .u64 0]) ?_ 0 _ rfl; exact BK2.out⟩
 have N3 := Aside0.mk (below_set (g := g2) (j := 1) (v := .int .u64 q2) (below_set (g := g2) (j := 0) (v := .int .u64 q1) HB.out GE2.out) GE2.out)
 clear hcz1_0 hcz1_1 hcz2_0 hcz2_1 hfz2_0 hfz2_1 BK1 BK2 HB
 generalize (w4.setCell ⟨g2, 0, none⟩ (.int .u64 q1)).setCell ⟨g2, 1, none⟩ (.int .u64 q2) = W at N1 N2 N3 ⊢
 have hc1_0 : W.cell? ⟨g1, 0, none⟩ = some (.int .u64 p1) := (blk_cell N1.out 0).trans rfl
 have hc1_1 : W.cell? ⟨g1, 1, none⟩ = some (.int .u64 p2) := (blk_cell N1.out 1).trans rfl
 have hc2_0 : W.cell? ⟨g2, 0, none⟩ = some (.int .u64 q1) := (blk_cell N2.out 0).trans rfl
 have hc2_1 : W.cell? ⟨g2, 1, none⟩ = some (.int .u64 q2) := (blk_cell N2.out 1).trans rfl
 have H := HH.out
 clear HH
 by_cases c1 : ps < qs
 ·rw [if_pos c1] at H
  have b1 : decide (ps < qs) = true := decide_eq_true c1
  clear c1
  obtain rfl := Option.some.inj H
  go_wp2
  go_ret
  exact ⟨rfl, N3.out⟩
 rw [if_neg c1] at H
 have b1 : decide (ps < qs) = false := decide_eq_false c1
 clear c1
 by_cases c2 : qs < ps
 ·rw [if_pos c2] at H
  have b2 : decide (qs < ps) = true := decide_eq_true c2
  clear c2
  obtain rfl := Option.some.inj H
  go_wp2
  go_ret
  exact ⟨rfl, N3.out⟩
 rw [if_neg c2] at H
 have b2 : decide (qs < ps) = false := decide_eq_false c2
 clear c2
 by_cases c3 : p1 < q1
 ·rw [if_pos c3] at H
  have b3 : decide (p1 < q1) = true := decide_eq_true c3
  clear c3
  obtain rfl := Option.some.inj H
  go_wp2
  refine wp_loop_rounds 1 ?_
  rw [rounds_succ]
  go_wp2
  go_quiet (fail)
  go_wp2
  go_ret
  exact ⟨rfl, by repeat (first | exact N3.out | apply pw_below_drewN | apply below_drew1)⟩
 rw [if_neg c3] at H
 have b3 : decide (p1 < q1) = false := decide_eq_false c3
 clear c3
 by_cases c4 : q1 < p1
 ·rw [if_pos c4] at H
  have b4 : decide (q1 < p1) = true := decide_eq_true c4
  clear c4
  obtain rfl := Option.some.inj H
  go_wp2
  refine wp_loop_rounds 1 ?_
  rw [rounds_succ]
  go_wp2
  go_quiet (fail)
  go_wp2
  go_quiet (fail)
  go_wp2
  go_ret
  exact ⟨rfl, by repeat (first | exact N3.out | apply pw_below_drewN | apply below_drew1)⟩
 rw [if_neg c4] at H
 have b4 : decide (q1 < p1) = false := decide_eq_false c4
 clear c4
 by_cases c5 : p2 < q2
 ·rw [if_pos c5] at H
  have b5 : decide (p2 < q2) = true := decide_eq_true c5
  clear c5
  obtain rfl := Option.some.inj H
  go_wp2
  refine wp_loop_rounds 2 ?_
  rw [rounds_succ]
  go_wp2
  go_quiet (fail)
  go_wp2
  go_quiet (fail)
  go_wp2
  rw [rounds_succ]
  go_wp2
  go_quiet (fail)
  go_wp2
  go_ret
  exact ⟨rfl, by repeat (first | exact N3.out | apply pw_below_drewN | apply below_drew1)⟩
 rw [if_neg c5] at H
 have b5 : decide (p2 < q2) = false := decide_eq_false c5
 clear c5
 by_cases c6 : q2 < p2
 ·rw [if_pos c6] at H
  have b6 : decide (q2 < p2) = true := decide_eq_true c6
  clear c6
  obtain rfl := Option.some.inj H
  go_wp2
  refine wp_loop_rounds 2 ?_
  rw [rounds_succ]
  go_wp2
  go_quiet (fail)
  go_wp2
  go_quiet (fail)
  go_wp2
  rw [rounds_succ]
  go_wp2
  go_quiet (fail)
  go_wp2
  go_quiet (fail)
  go_wp2
  go_ret
  exact ⟨rfl, by repeat (first | exact N3.out | apply pw_below_drewN | apply below_drew1)⟩
 rw [if_neg c6] at H
 have b6 : decide (q2 < p2) = false := decide_eq_false c6
 clear c6
 obtain rfl := Option.some.inj H
 go_wp2
 refine wp_loop_rounds 3 ?_
 rw [rounds_succ]
 go_wp2
 go_quiet (fail)
 go_wp2
 go_quiet (fail)
 go_wp2
 rw [rounds_succ]
 go_wp2
 go_quiet (fail)
 go_wp2
 go_quiet (fail)
 go_wp2
 rw [rounds_succ]
 go_wp2
 go_ret
 exact ⟨rfl, by repeat (first | exact N3.out | apply pw_below_drewN | apply below_drew1)⟩

end Go.Proofs.Ytgjeiddccfmodaa.PAll
