-- Written by a program of this session (wip/tools), over the words that print.sh lays. (slim)
import Derived.Test.YtpjeomjingocbaaPAllx0
namespace Go.Proofs.Ytpjeomjingocbaa.PAll
open Go.RowKit Go.Proofs.YtpjeomjingocbaaW.PrintWords Go.Proofs.YtpjeomjingocbaaW.PrintLast Go.Proofs.YtpjeomjingocbaaW.PrintMore
attribute [local go_sem] max2_int min2_int max_two min_two max_three min_three max_four min_four   -- for this text's walks alone
set_option linter.unusedVariables false
set_option linter.unusedSimpArgs false
attribute [local irreducible] Calls

/-! ### classify_Speed: function 25 -/
def classify_Speed.f (a0 : Int) : Option Int := if a0 < 1 then some 0 else if a0 ≥ 7 then some 0 else if a0 = 1 then some 1 else if a0 = 2 then some 2 else if a0 = 3 then some 3 else if a0 = 4 then some 5 else if a0 = 5 then some 8 else some 10
set_option maxHeartbeats 4000000 in
set_option maxRecDepth 100000 in
theorem classify_Speed.calls1 (w : World) : Calls Try.prog 25 #[.int .i64 1] w fun e w' => e = .returned (.int .i64 1) ∧ Below w.heap.size w w' := by
 have hu := Try.underlying76
 have HB := Aside0.mk (Below.refl w.heap.size w)
 go_enter Try.func25, Try.ntmps25
 go_upto_region 2 with (first
  | ((with_reducible refine gate_dst (N := 3) rfl ?_); refine box_event ?hg (N := 3) ?hd (cs := #[.int .i64 0, .int .i64 0, .int .i64 0, .int .i64 0, .int .i64 0, .int .i64 0, .int .i64 0]) (t := 76) ?hr ?_; (case hd => rfl); (case hg => rfl); (case hr => first | (go_simp; done) | (go_simp; rfl)); intro g1 hg w1 hbox hb; have n0_ := Aside0.mk (below_step HB.out hb); have BK1 := Aside0.mk hbox; have GE1 := Aside0.mk ((by rw [hg]; exact (below_size HB.out)) : w.heap.size ≤ g1); clear HB; have HB := n0_; clear n0_ hb hbox hg; have hcz0 : w1.cell? ⟨g1, 0, none⟩ = some (.int .i64 0) := (blk_cell BK1.out 0).trans rfl; have hfz0 := blk_frozen BK1.out 0; have hcz1 : w1.cell? ⟨g1, 1, none⟩ = some (.int .i64 0) := (blk_cell BK1.out 1).trans rfl; have hfz1 := blk_frozen BK1.out 1; have hcz2 : w1.cell? ⟨g1, 2, none⟩ = some (.int .i64 0) := (blk_cell BK1.out 2).trans rfl; have hfz2 := blk_frozen BK1.out 2; have hcz3 : w1.cell? ⟨g1, 3, none⟩ = some (.int .i64 0) := (blk_cell BK1.out 3).trans rfl; have hfz3 := blk_frozen BK1.out 3; have hcz4 : w1.cell? ⟨g1, 4, none⟩ = some (.int .i64 0) := (blk_cell BK1.out 4).trans rfl; have hfz4 := blk_frozen BK1.out 4; have hcz5 : w1.cell? ⟨g1, 5, none⟩ = some (.int .i64 0) := (blk_cell BK1.out 5).trans rfl; have hfz5 := blk_frozen BK1.out 5; have hcz6 : w1.cell? ⟨g1, 6, none⟩ = some (.int .i64 0) := (blk_cell BK1.out 6).trans rfl; have hfz6 := blk_frozen BK1.out 6))
 have N2 : Aside0 ((((((((w1.setCell ⟨g1, 0, none⟩ (.int .i64 0)).setCell ⟨g1, 1, none⟩ (.int .i64 1)).setCell ⟨g1, 2, none⟩ (.int .i64 2)).setCell ⟨g1, 3, none⟩ (.int .i64 3)).setCell ⟨g1, 4, none⟩ (.int .i64 5)).setCell ⟨g1, 5, none⟩ (.int .i64 8)).setCell ⟨g1, 6, none⟩ (.int .i64 10)).heap[g1]? = some (.cells #[.int .i64 0, .int .i64 1, .int .i64 2, .int .i64 3, .int .i64 5, .int .i64 8, .int .i64 10] 76 (0, 0))) := ⟨by refine blk_put (cs := #[.int .i64 0, .int .i64 1, .int .i64 2, .int .i64 3, .int .i64 5, .int .i64 8, .int .i64 0]) ?_ 6 _ rfl; refine blk_put (cs := #[.int .i64 0, .int .i64 1, .int .i64 2, .int .i64 3, .int .i64 5, .int .i64 0, .int .i64 0]) ?_ 5 _ rfl; refine blk_put (cs := #[.int .i64 0, .int .i64 1, .int .i64 2, .int .i64 3, .int .i64 0, .int .i64 0, .int .i64 0]) ?_ 4 _ rfl; refine blk_put (cs := #[.int .i64 0, .int .i64 1, .int .i64 2, .int .i64 0, .int .i64 0, .int .i64 0, .int .i64 0]) ?_ 3 _ rfl; refine blk_put (cs := #[.int .i64 0, .int .i64 1, .int .i64 0, .int .i64 0, .int .i64 0, .int .i64 0, .int .i64 0]) ?_ 2 _ rfl; refine blk_put (cs := #[.int .i64 0, .int .i64 0, .int .i64 0, .int .i64 0, .int .i64 0, .int .i64 0, .int .i64 0]) ?_ 1 _ rfl; refine blk_put (cs := #[.int .i64 0, .int .i64 0, .int .i64 0, .int .i64 0, .int .i64 0, .int .i64 0, .int .i64 0]) ?_ 0 _ rfl; exact BK1.out⟩
 have N3 := Aside0.mk (below_set (g := g1) (j := 6) (v := .int .i64 10) (below_set (g := g1) (j := 5) (v := .int .i64 8) (below_set (g := g1) (j := 4) (v := .int .i64 5) (below_set (g := g1) (j := 3) (v := .int .i64 3) (below_set (g := g1) (j := 2) (v := .int .i64 2) (below_set (g := g1) (j := 1) (v := .int .i64 1) (below_set (g := g1) (j := 0) (v := .int .i64 0) HB.out GE1.out) GE1.out) GE1.out) GE1.out) GE1.out) GE1.out) GE1.out)
 clear hcz0 hfz0 hcz1 hfz1 hcz2 hfz2 hcz3 hfz3 hcz4 hfz4 hcz5 hfz5 hcz6 hfz6 BK1 HB
 generalize (((((((w1.setCell ⟨g1, 0, none⟩ (.int .i64 0)).setCell ⟨g1, 1, none⟩ (.int .i64 1)).setCell ⟨g1, 2, none⟩ (.int .i64 2)).setCell ⟨g1, 3, none⟩ (.int .i64 3)).setCell ⟨g1, 4, none⟩ (.int .i64 5)).setCell ⟨g1, 5, none⟩ (.int .i64 8)).setCell ⟨g1, 6, none⟩ (.int .i64 10)) = W at N2 N3 ⊢
 have hc0 : W.cell? ⟨g1, 0, none⟩ = some (.int .i64 0) := (blk_cell N2.out 0).trans rfl
 have hc1 : W.cell? ⟨g1, 1, none⟩ = some (.int .i64 1) := (blk_cell N2.out 1).trans rfl
 have hc2 : W.cell? ⟨g1, 2, none⟩ = some (.int .i64 2) := (blk_cell N2.out 2).trans rfl
 have hc3 : W.cell? ⟨g1, 3, none⟩ = some (.int .i64 3) := (blk_cell N2.out 3).trans rfl
 have hc4 : W.cell? ⟨g1, 4, none⟩ = some (.int .i64 5) := (blk_cell N2.out 4).trans rfl
 have hc5 : W.cell? ⟨g1, 5, none⟩ = some (.int .i64 8) := (blk_cell N2.out 5).trans rfl
 have hc6 : W.cell? ⟨g1, 6, none⟩ = some (.int .i64 10) := (blk_cell N2.out 6).trans rfl
 go_wp2
 go_ret
 exact ⟨rfl, N3.out⟩
set_option maxHeartbeats 4000000 in
set_option maxRecDepth 100000 in
theorem classify_Speed.calls2 (w : World) : Calls Try.prog 25 #[.int .i64 2] w fun e w' => e = .returned (.int .i64 2) ∧ Below w.heap.size w w' := by
 have hu := Try.underlying76
 have HB := Aside0.mk (Below.refl w.heap.size w)
 go_enter Try.func25, Try.ntmps25
 go_upto_region 2 with (first
  | ((with_reducible refine gate_dst (N := 3) rfl ?_); refine box_event ?hg (N := 3) ?hd (cs := #[.int .i64 0, .int .i64 0, .int .i64 0, .int .i64 0, .int .i64 0, .int .i64 0, .int .i64 0]) (t := 76) ?hr ?_; (case hd => rfl); (case hg => rfl); (case hr => first | (go_simp; done) | (go_simp; rfl)); intro g1 hg w1 hbox hb; have n0_ := Aside0.mk (below_step HB.out hb); have BK1 := Aside0.mk hbox; have GE1 := Aside0.mk ((by rw [hg]; exact (below_size HB.out)) : w.heap.size ≤ g1); clear HB; have HB := n0_; clear n0_ hb hbox hg; have hcz0 : w1.cell? ⟨g1, 0, none⟩ = some (.int .i64 0) := (blk_cell BK1.out 0).trans rfl; have hfz0 := blk_frozen BK1.out 0; have hcz1 : w1.cell? ⟨g1, 1, none⟩ = some (.int .i64 0) := (blk_cell BK1.out 1).trans rfl; have hfz1 := blk_frozen BK1.out 1; have hcz2 : w1.cell? ⟨g1, 2, none⟩ = some (.int .i64 0) := (blk_cell BK1.out 2).trans rfl; have hfz2 := blk_frozen BK1.out 2; have hcz3 : w1.cell? ⟨g1, 3, none⟩ = some (.int .i64 0) := (blk_cell BK1.out 3).trans rfl; have hfz3 := blk_frozen BK1.out 3; have hcz4 : w1.cell? ⟨g1, 4, none⟩ = some (.int .i64 0) := (blk_cell BK1.out 4).trans rfl; have hfz4 := blk_frozen BK1.out 4; have hcz5 : w1.cell? ⟨g1, 5, none⟩ = some (.int .i64 0) := (blk_cell BK1.out 5).trans rfl; have hfz5 := blk_frozen BK1.out 5; have hcz6 : w1.cell? ⟨g1, 6, none⟩ = some (.int .i64 0) := (blk_cell BK1.out 6).trans rfl; have hfz6 := blk_frozen BK1.out 6))
 have N2 : Aside0 ((((((((w1.setCell ⟨g1, 0, none⟩ (.int .i64 0)).setCell ⟨g1, 1, none⟩ (.int .i64 1)).setCell ⟨g1, 2, none⟩ (.int .i64 2)).setCell ⟨g1, 3, none⟩ (.int .i64 3)).setCell ⟨g1, 4, none⟩ (.int .i64 5)).setCell ⟨g1, 5, none⟩ (.int .i64 8)).setCell ⟨g1, 6, none⟩ (.int .i64 10)).heap[g1]? = some (.cells #[.int .i64 0, .int .i64 1, .int .i64 2, .int .i64 3, .int .i64 5, .int .i64 8, .int .i64 10] 76 (0, 0))) := ⟨by refine blk_put (cs := #[.int .i64 0, .int .i64 1, .int .i64 2, .int .i64 3, .int .i64 5, .int .i64 8, .int .i64 0]) ?_ 6 _ rfl; refine blk_put (cs := #[.int .i64 0, .int .i64 1, .int .i64 2, .int .i64 3, .int .i64 5, .int .i64 0, .int .i64 0]) ?_ 5 _ rfl; refine blk_put (cs := #[.int .i64 0, .int .i64 1, .int .i64 2, .int .i64 3, .int .i64 0, .int .i64 0, .int .i64 0]) ?_ 4 _ rfl; refine blk_put (cs := #[.int .i64 0, .int .i64 1, .int .i64 2, .int .i64 0, .int .i64 0, .int .i64 0, .int .i64 0]) ?_ 3 _ rfl; refine blk_put (cs := #[.int .i64 0, .int .i64 1, .int .i64 0, .int .i64 0, .int .i64 0, .int .i64 0, .int .i64 0]) ?_ 2 _ rfl; refine blk_put (cs := #[.int .i64 0, .int .i64 0, .int .i64 0, .int .i64 0, .int .i64 0, .int .i64 0, .int .i64 0]) ?_ 1 _ rfl; refine blk_put (cs := #[.int .i64 0, .int .i64 0, .int .i64 0, .int .i64 0, .int .i64 0, .int .i64 0, .int .i64 0]) ?_ 0 _ rfl; exact BK1.out⟩
 have N3 := Aside0.mk (below_set (g := g1) (j := 6) (v := .int .i64 10) (below_set (g := g1) (j := 5) (v := .int .i64 8) (below_set (g := g1) (j := 4) (v := .int .i64 5) (below_set (g := g1) (j := 3) (v := .int .i64 3) (below_set (g := g1) (j := 2) (v := .int .i64 2) (below_set (g := g1) (j := 1) (v := .int .i64 1) (below_set (g := g1) (j := 0) (v := .int .i64 0) HB.out GE1.out) GE1.out) GE1.out) GE1.out) GE1.out) GE1.out) GE1.out)
 clear hcz0 hfz0 hcz1 hfz1 hcz2 hfz2 hcz3 hfz3 hcz4 hfz4 hcz5 hfz5 hcz6 hfz6 BK1 HB
 generalize (((((((w1.setCell ⟨g1, 0, none⟩ (.int .i64 0)).setCell ⟨g1, 1, none⟩ (.int .i64 1)).setCell ⟨g1, 2, none⟩ (.int .i64 2)).setCell ⟨g1, 3, none⟩ (.int .i64 3)).setCell ⟨g1, 4, none⟩ (.int .i64 5)).setCell ⟨g1, 5, none⟩ (.int .i64 8)).setCell ⟨g1, 6, none⟩ (.int .i64 10)) = W at N2 N3 ⊢
 have hc0 : W.cell? ⟨g1, 0, none⟩ = some (.int .i64 0) := (blk_cell N2.out 0).trans rfl
 have hc1 : W.cell? ⟨g1, 1, none⟩ = some (.int .i64 1) := (blk_cell N2.out 1).trans rfl
 have hc2 : W.cell? ⟨g1, 2, none⟩ = some (.int .i64 2) := (blk_cell N2.out 2).trans rfl
 have hc3 : W.cell? ⟨g1, 3, none⟩ = some (.int .i64 3) := (blk_cell N2.out 3).trans rfl
 have hc4 : W.cell? ⟨g1, 4, none⟩ = some (.int .i64 5) := (blk_cell N2.out 4).trans rfl
 have hc5 : W.cell? ⟨g1, 5, none⟩ = some (.int .i64 8) := (blk_cell N2.out 5).trans rfl
 have hc6 : W.cell? ⟨g1, 6, none⟩ = some (.int .i64 10) := (blk_cell N2.out 6).trans rfl
 go_wp2
 go_ret
 exact ⟨rfl, N3.out⟩
set_option maxHeartbeats 4000000 in
set_option maxRecDepth 100000 in
theorem classify_Speed.calls3 (w : World) : Calls Try.prog 25 #[.int .i64 3] w fun e w' => e = .returned (.int .i64 3) ∧ Below w.heap.size w w' := by
 have hu := Try.underlying76
 have HB := Aside0.mk (Below.refl w.heap.size w)
 go_enter Try.func25, Try.ntmps25
 go_upto_region 2 with (first
  | ((with_reducible refine gate_dst (N := 3) rfl ?_); refine box_event ?hg (N := 3) ?hd (cs := #[.int .i64 0, .int .i64 0, .int .i64 0, .int .i64 0, .int .i64 0, .int .i64 0, .int .i64 0]) (t := 76) ?hr ?_; (case hd => rfl); (case hg => rfl); (case hr => first | (go_simp; done) | (go_simp; rfl)); intro g1 hg w1 hbox hb; have n0_ := Aside0.mk (below_step HB.out hb); have BK1 := Aside0.mk hbox; have GE1 := Aside0.mk ((by rw [hg]; exact (below_size HB.out)) : w.heap.size ≤ g1); clear HB; have HB := n0_; clear n0_ hb hbox hg; have hcz0 : w1.cell? ⟨g1, 0, none⟩ = some (.int .i64 0) := (blk_cell BK1.out 0).trans rfl; have hfz0 := blk_frozen BK1.out 0; have hcz1 : w1.cell? ⟨g1, 1, none⟩ = some (.int .i64 0) := (blk_cell BK1.out 1).trans rfl; have hfz1 := blk_frozen BK1.out 1; have hcz2 : w1.cell? ⟨g1, 2, none⟩ = some (.int .i64 0) := (blk_cell BK1.out 2).trans rfl; have hfz2 := blk_frozen BK1.out 2; have hcz3 : w1.cell? ⟨g1, 3, none⟩ = some (.int .i64 0) := (blk_cell BK1.out 3).trans rfl; have hfz3 := blk_frozen BK1.out 3; have hcz4 : w1.cell? ⟨g1, 4, none⟩ = some (.int .i64 0) := (blk_cell BK1.out 4).trans rfl; have hfz4 := blk_frozen BK1.out 4; have hcz5 : w1.cell? ⟨g1, 5, none⟩ = some (.int .i64 0) := (blk_cell BK1.out 5).trans rfl; have hfz5 := blk_frozen BK1.out 5; have hcz6 : w1.cell? ⟨g1, 6, none⟩ = some (.int .i64 0) := (blk_cell BK1.out 6).trans rfl; have hfz6 := blk_frozen BK1.out 6))
 have N2 : Aside0 ((((((((w1.setCell ⟨g1, 0, none⟩ (.int .i64 0)).setCell ⟨g1, 1, none⟩ (.int .i64 1)).setCell ⟨g1, 2, none⟩ (.int .i64 2)).setCell ⟨g1, 3, none⟩ (.int .i64 3)).setCell ⟨g1, 4, none⟩ (.int .i64 5)).setCell ⟨g1, 5, none⟩ (.int .i64 8)).setCell ⟨g1, 6, none⟩ (.int .i64 10)).heap[g1]? = some (.cells #[.int .i64 0, .int .i64 1, .int .i64 2, .int .i64 3, .int .i64 5, .int .i64 8, .int .i64 10] 76 (0, 0))) := ⟨by refine blk_put (cs := #[.int .i64 0, .int .i64 1, .int .i64 2, .int .i64 3, .int .i64 5, .int .i64 8, .int .i64 0]) ?_ 6 _ rfl; refine blk_put (cs := #[.int .i64 0, .int .i64 1, .int .i64 2, .int .i64 3, .int .i64 5, .int .i64 0, .int .i64 0]) ?_ 5 _ rfl; refine blk_put (cs := #[.int .i64 0, .int .i64 1, .int .i64 2, .int .i64 3, .int .i64 0, .int .i64 0, .int .i64 0]) ?_ 4 _ rfl; refine blk_put (cs := #[.int .i64 0, .int .i64 1, .int .i64 2, .int .i64 0, .int .i64 0, .int .i64 0, .int .i64 0]) ?_ 3 _ rfl; refine blk_put (cs := #[.int .i64 0, .int .i64 1, .int .i64 0, .int .i64 0, .int .i64 0, .int .i64 0, .int .i64 0]) ?_ 2 _ rfl; refine blk_put (cs := #[.int .i64 0, .int .i64 0, .int .i64 0, .int .i64 0, .int .i64 0, .int .i64 0, .int .i64 0]) ?_ 1 _ rfl; refine blk_put (cs := #[.int .i64 0, .int .i64 0, .int .i64 0, .int .i64 0, .int .i64 0, .int .i64 0, .int .i64 0]) ?_ 0 _ rfl; exact BK1.out⟩
 have N3 := Aside0.mk (below_set (g := g1) (j := 6) (v := .int .i64 10) (below_set (g := g1) (j := 5) (v := .int .i64 8) (below_set (g := g1) (j := 4) (v := .int .i64 5) (below_set (g := g1) (j := 3) (v := .int .i64 3) (below_set (g := g1) (j := 2) (v := .int .i64 2) (below_set (g := g1) (j := 1) (v := .int .i64 1) (below_set (g := g1) (j := 0) (v := .int .i64 0) HB.out GE1.out) GE1.out) GE1.out) GE1.out) GE1.out) GE1.out) GE1.out)
 clear hcz0 hfz0 hcz1 hfz1 hcz2 hfz2 hcz3 hfz3 hcz4 hfz4 hcz5 hfz5 hcz6 hfz6 BK1 HB
 generalize (((((((w1.setCell ⟨g1, 0, none⟩ (.int .i64 0)).setCell ⟨g1, 1, none⟩ (.int .i64 1)).setCell ⟨g1, 2, none⟩ (.int .i64 2)).setCell ⟨g1, 3, none⟩ (.int .i64 3)).setCell ⟨g1, 4, none⟩ (.int .i64 5)).setCell ⟨g1, 5, none⟩ (.int .i64 8)).setCell ⟨g1, 6, none⟩ (.int .i64 10)) = W at N2 N3 ⊢
 have hc0 : W.cell? ⟨g1, 0, none⟩ = some (.int .i64 0) := (blk_cell N2.out 0).trans rfl
 have hc1 : W.cell? ⟨g1, 1, none⟩ = some (.int .i64 1) := (blk_cell N2.out 1).trans rfl
 have hc2 : W.cell? ⟨g1, 2, none⟩ = some (.int .i64 2) := (blk_cell N2.out 2).trans rfl
 have hc3 : W.cell? ⟨g1, 3, none⟩ = some (.int .i64 3) := (blk_cell N2.out 3).trans rfl
 have hc4 : W.cell? ⟨g1, 4, none⟩ = some (.int .i64 5) := (blk_cell N2.out 4).trans rfl
 have hc5 : W.cell? ⟨g1, 5, none⟩ = some (.int .i64 8) := (blk_cell N2.out 5).trans rfl
 have hc6 : W.cell? ⟨g1, 6, none⟩ = some (.int .i64 10) := (blk_cell N2.out 6).trans rfl
 go_wp2
 go_ret
 exact ⟨rfl, N3.out⟩
set_option maxHeartbeats 4000000 in
set_option maxRecDepth 100000 in
theorem classify_Speed.calls4 (w : World) : Calls Try.prog 25 #[.int .i64 4] w fun e w' => e = .returned (.int .i64 5) ∧ Below w.heap.size w w' := by
 have hu := Try.underlying76
 have HB := Aside0.mk (Below.refl w.heap.size w)
 go_enter Try.func25, Try.ntmps25
 go_upto_region 2 with (first
  | ((with_reducible refine gate_dst (N := 3) rfl ?_); refine box_event ?hg (N := 3) ?hd (cs := #[.int .i64 0, .int .i64 0, .int .i64 0, .int .i64 0, .int .i64 0, .int .i64 0, .int .i64 0]) (t := 76) ?hr ?_; (case hd => rfl); (case hg => rfl); (case hr => first | (go_simp; done) | (go_simp; rfl)); intro g1 hg w1 hbox hb; have n0_ := Aside0.mk (below_step HB.out hb); have BK1 := Aside0.mk hbox; have GE1 := Aside0.mk ((by rw [hg]; exact (below_size HB.out)) : w.heap.size ≤ g1); clear HB; have HB := n0_; clear n0_ hb hbox hg; have hcz0 : w1.cell? ⟨g1, 0, none⟩ = some (.int .i64 0) := (blk_cell BK1.out 0).trans rfl; have hfz0 := blk_frozen BK1.out 0; have hcz1 : w1.cell? ⟨g1, 1, none⟩ = some (.int .i64 0) := (blk_cell BK1.out 1).trans rfl; have hfz1 := blk_frozen BK1.out 1; have hcz2 : w1.cell? ⟨g1, 2, none⟩ = some (.int .i64 0) := (blk_cell BK1.out 2).trans rfl; have hfz2 := blk_frozen BK1.out 2; have hcz3 : w1.cell? ⟨g1, 3, none⟩ = some (.int .i64 0) := (blk_cell BK1.out 3).trans rfl; have hfz3 := blk_frozen BK1.out 3; have hcz4 : w1.cell? ⟨g1, 4, none⟩ = some (.int .i64 0) := (blk_cell BK1.out 4).trans rfl; have hfz4 := blk_frozen BK1.out 4; have hcz5 : w1.cell? ⟨g1, 5, none⟩ = some (.int .i64 0) := (blk_cell BK1.out 5).trans rfl; have hfz5 := blk_frozen BK1.out 5; have hcz6 : w1.cell? ⟨g1, 6, none⟩ = some (.int .i64 0) := (blk_cell BK1.out 6).trans rfl; have hfz6 := blk_frozen BK1.out 6))
 have N2 : Aside0 ((((((((w1.setCell ⟨g1, 0, none⟩ (.int .i64 0)).setCell ⟨g1, 1, none⟩ (.int .i64 1)).setCell ⟨g1, 2, none⟩ (.int .i64 2)).setCell ⟨g1, 3, none⟩ (.int .i64 3)).setCell ⟨g1, 4, none⟩ (.int .i64 5)).setCell ⟨g1, 5, none⟩ (.int .i64 8)).setCell ⟨g1, 6, none⟩ (.int .i64 10)).heap[g1]? = some (.cells #[.int .i64 0, .int .i64 1, .int .i64 2, .int .i64 3, .int .i64 5, .int .i64 8, .int .i64 10] 76 (0, 0))) := ⟨by refine blk_put (cs := #[.int .i64 0, .int .i64 1, .int .i64 2, .int .i64 3, .int .i64 5, .int .i64 8, .int .i64 0]) ?_ 6 _ rfl; refine blk_put (cs := #[.int .i64 0, .int .i64 1, .int .i64 2, .int .i64 3, .int .i64 5, .int .i64 0, .int .i64 0]) ?_ 5 _ rfl; refine blk_put (cs := #[.int .i64 0, .int .i64 1, .int .i64 2, .int .i64 3, .int .i64 0, .int .i64 0, .int .i64 0]) ?_ 4 _ rfl; refine blk_put (cs := #[.int .i64 0, .int .i64 1, .int .i64 2, .int .i64 0, .int .i64 0, .int .i64 0, .int .i64 0]) ?_ 3 _ rfl; refine blk_put (cs := #[.int .i64 0, .int .i64 1, .int .i64 0, .int .i64 0, .int .i64 0, .int .i64 0, .int .i64 0]) ?_ 2 _ rfl; refine blk_put (cs := #[.int .i64 0, .int .i64 0, .int .i64 0, .int .i64 0, .int .i64 0, .int .i64 0, .int .i64 0]) ?_ 1 _ rfl; refine blk_put (cs := #[.int .i64 0, .int .i64 0, .int .i64 0, .int .i64 0, .int .i64 0, .int .i64 0, .int .i64 0]) ?_ 0 _ rfl; exact BK1.out⟩
 have N3 := Aside0.mk (below_set (g := g1) (j := 6) (v := .int .i64 10) (below_set (g := g1) (j := 5) (v := .int .i64 8) (below_set (g := g1) (j := 4) (v := .int .i64 5) (below_set (g := g1) (j := 3) (v := .int .i64 3) (below_set (g := g1) (j := 2) (v := .int .i64 2) (below_set (g := g1) (j := 1) (v := .int .i64 1) (below_set (g := g1) (j := 0) (v := .int .i64 0) HB.out GE1.out) GE1.out) GE1.out) GE1.out) GE1.out) GE1.out) GE1.out)
 clear hcz0 hfz0 hcz1 hfz1 hcz2 hfz2 hcz3 hfz3 hcz4 hfz4 hcz5 hfz5 hcz6 hfz6 BK1 HB
 generalize (((((((w1.setCell ⟨g1, 0, none⟩ (.int .i64 0)).setCell ⟨g1, 1, none⟩ (.int .i64 1)).setCell ⟨g1, 2, none⟩ (.int .i64 2)).setCell ⟨g1, 3, none⟩ (.int .i64 3)).setCell ⟨g1, 4, none⟩ (.int .i64 5)).setCell ⟨g1, 5, none⟩ (.int .i64 8)).setCell ⟨g1, 6, none⟩ (.int .i64 10)) = W at N2 N3 ⊢
 have hc0 : W.cell? ⟨g1, 0, none⟩ = some (.int .i64 0) := (blk_cell N2.out 0).trans rfl
 have hc1 : W.cell? ⟨g1, 1, none⟩ = some (.int .i64 1) := (blk_cell N2.out 1).trans rfl
 have hc2 : W.cell? ⟨g1, 2, none⟩ = some (.int .i64 2) := (blk_cell N2.out 2).trans rfl
 have hc3 : W.cell? ⟨g1, 3, none⟩ = some (.int .i64 3) := (blk_cell N2.out 3).trans rfl
 have hc4 : W.cell? ⟨g1, 4, none⟩ = some (.int .i64 5) := (blk_cell N2.out 4).trans rfl
 have hc5 : W.cell? ⟨g1, 5, none⟩ = some (.int .i64 8) := (blk_cell N2.out 5).trans rfl
 have hc6 : W.cell? ⟨g1, 6, none⟩ = some (.int .i64 10) := (blk_cell N2.out 6).trans rfl
 go_wp2
 go_ret
 exact ⟨rfl, N3.out⟩
set_option maxHeartbeats 4000000 in
set_option maxRecDepth 100000 in
theorem classify_Speed.calls5 (w : World) : Calls Try.prog 25 #[.int .i64 5] w fun e w' => e = .returned (.int .i64 8) ∧ Below w.heap.size w w' := by
 have hu := Try.underlying76
 have HB := Aside0.mk (Below.refl w.heap.size w)
 go_enter Try.func25, Try.ntmps25
 go_upto_region 2 with (first
  | ((with_reducible refine gate_dst (N := 3) rfl ?_); refine box_event ?hg (N := 3) ?hd (cs := #[.int .i64 0, .int .i64 0, .int .i64 0, .int .i64 0, .int .i64 0, .int .i64 0, .int .i64 0]) (t := 76) ?hr ?_; (case hd => rfl); (case hg => rfl); (case hr => first | (go_simp; done) | (go_simp; rfl)); intro g1 hg w1 hbox hb; have n0_ := Aside0.mk (below_step HB.out hb); have BK1 := Aside0.mk hbox; have GE1 := Aside0.mk ((by rw [hg]; exact (below_size HB.out)) : w.heap.size ≤ g1); clear HB; have HB := n0_; clear n0_ hb hbox hg; have hcz0 : w1.cell? ⟨g1, 0, none⟩ = some (.int .i64 0) := (blk_cell BK1.out 0).trans rfl; have hfz0 := blk_frozen BK1.out 0; have hcz1 : w1.cell? ⟨g1, 1, none⟩ = some (.int .i64 0) := (blk_cell BK1.out 1).trans rfl; have hfz1 := blk_frozen BK1.out 1; have hcz2 : w1.cell? ⟨g1, 2, none⟩ = some (.int .i64 0) := (blk_cell BK1.out 2).trans rfl; have hfz2 := blk_frozen BK1.out 2; have hcz3 : w1.cell? ⟨g1, 3, none⟩ = some (.int .i64 0) := (blk_cell BK1.out 3).trans rfl; have hfz3 := blk_frozen BK1.out 3; have hcz4 : w1.cell? ⟨g1, 4, none⟩ = some (.int .i64 0) := (blk_cell BK1.out 4).trans rfl; have hfz4 := blk_frozen BK1.out 4; have hcz5 : w1.cell? ⟨g1, 5, none⟩ = some (.int .i64 0) := (blk_cell BK1.out 5).trans rfl; have hfz5 := blk_frozen BK1.out 5; have hcz6 : w1.cell? ⟨g1, 6, none⟩ = some (.int .i64 0) := (blk_cell BK1.out 6).trans rfl; have hfz6 := blk_frozen BK1.out 6))
 have N2 : Aside0 ((((((((w1.setCell ⟨g1, 0, none⟩ (.int .i64 0)).setCell ⟨g1, 1, none⟩ (.int .i64 1)).setCell ⟨g1, 2, none⟩ (.int .i64 2)).setCell ⟨g1, 3, none⟩ (.int .i64 3)).setCell ⟨g1, 4, none⟩ (.int .i64 5)).setCell ⟨g1, 5, none⟩ (.int .i64 8)).setCell ⟨g1, 6, none⟩ (.int .i64 10)).heap[g1]? = some (.cells #[.int .i64 0, .int .i64 1, .int .i64 2, .int .i64 3, .int .i64 5, .int .i64 8, .int .i64 10] 76 (0, 0))) := ⟨by refine blk_put (cs := #[.int .i64 0, .int .i64 1, .int .i64 2, .int .i64 3, .int .i64 5, .int .i64 8, .int .i64 0]) ?_ 6 _ rfl; refine blk_put (cs := #[.int .i64 0, .int .i64 1, .int .i64 2, .int .i64 3, .int .i64 5, .int .i64 0, .int .i64 0]) ?_ 5 _ rfl; refine blk_put (cs := #[.int .i64 0, .int .i64 1, .int .i64 2, .int .i64 3, .int .i64 0, .int .i64 0, .int .i64 0]) ?_ 4 _ rfl; refine blk_put (cs := #[.int .i64 0, .int .i64 1, .int .i64 2, .int .i64 0, .int .i64 0, .int .i64 0, .int .i64 0]) ?_ 3 _ rfl; refine blk_put (cs := #[.int .i64 0, .int .i64 1, .int .i64 0, .int .i64 0, .int .i64 0, .int .i64 0, .int .i64 0]) ?_ 2 _ rfl; refine blk_put (cs := #[.int .i64 0, .int .i64 0, .int .i64 0, .int .i64 0, .int .i64 0, .int .i64 0, .int .i64 0]) ?_ 1 _ rfl; refine blk_put (cs := #[.int .i64 0, .int .i64 0, .int .i64 0, .int .i64 0, .int .i64 0, .int .i64 0, .int .i64 0]) ?_ 0 _ rfl; exact BK1.out⟩
 have N3 := Aside0.mk (below_set (g := g1) (j := 6) (v := .int .i64 10) (below_set (g := g1) (j := 5) (v := .int .i64 8) (below_set (g := g1) (j := 4) (v := .int .i64 5) (below_set (g := g1) (j := 3) (v := .int .i64 3) (below_set (g := g1) (j := 2) (v := .int .i64 2) (below_set (g := g1) (j := 1) (v := .int .i64 1) (below_set (g := g1) (j := 0) (v := .int .i64 0) HB.out GE1.out) GE1.out) GE1.out) GE1.out) GE1.out) GE1.out) GE1.out)
 clear hcz0 hfz0 hcz1 hfz1 hcz2 hfz2 hcz3 hfz3 hcz4 hfz4 hcz5 hfz5 hcz6 hfz6 BK1 HB
 generalize (((((((w1.setCell ⟨g1, 0, none⟩ (.int .i64 0)).setCell ⟨g1, 1, none⟩ (.int .i64 1)).setCell ⟨g1, 2, none⟩ (.int .i64 2)).setCell ⟨g1, 3, none⟩ (.int .i64 3)).setCell ⟨g1, 4, none⟩ (.int .i64 5)).setCell ⟨g1, 5, none⟩ (.int .i64 8)).setCell ⟨g1, 6, none⟩ (.int .i64 10)) = W at N2 N3 ⊢
 have hc0 : W.cell? ⟨g1, 0, none⟩ = some (.int .i64 0) := (blk_cell N2.out 0).trans rfl
 have hc1 : W.cell? ⟨g1, 1, none⟩ = some (.int .i64 1) := (blk_cell N2.out 1).trans rfl
 have hc2 : W.cell? ⟨g1, 2, none⟩ = some (.int .i64 2) := (blk_cell N2.out 2).trans rfl
 have hc3 : W.cell? ⟨g1, 3, none⟩ = some (.int .i64 3) := (blk_cell N2.out 3).trans rfl
 have hc4 : W.cell? ⟨g1, 4, none⟩ = some (.int .i64 5) := (blk_cell N2.out 4).trans rfl
 have hc5 : W.cell? ⟨g1, 5, none⟩ = some (.int .i64 8) := (blk_cell N2.out 5).trans rfl
 have hc6 : W.cell? ⟨g1, 6, none⟩ = some (.int .i64 10) := (blk_cell N2.out 6).trans rfl
 go_wp2
 go_ret
 exact ⟨rfl, N3.out⟩
set_option maxHeartbeats 4000000 in
set_option maxRecDepth 100000 in
theorem classify_Speed.calls6 (w : World) : Calls Try.prog 25 #[.int .i64 6] w fun e w' => e = .returned (.int .i64 10) ∧ Below w.heap.size w w' := by
 have hu := Try.underlying76
 have HB := Aside0.mk (Below.refl w.heap.size w)
 go_enter Try.func25, Try.ntmps25
 go_upto_region 2 with (first
  | ((with_reducible refine gate_dst (N := 3) rfl ?_); refine box_event ?hg (N := 3) ?hd (cs := #[.int .i64 0, .int .i64 0, .int .i64 0, .int .i64 0, .int .i64 0, .int .i64 0, .int .i64 0]) (t := 76) ?hr ?_; (case hd => rfl); (case hg => rfl); (case hr => first | (go_simp; done) | (go_simp; rfl)); intro g1 hg w1 hbox hb; have n0_ := Aside0.mk (below_step HB.out hb); have BK1 := Aside0.mk hbox; have GE1 := Aside0.mk ((by rw [hg]; exact (below_size HB.out)) : w.heap.size ≤ g1); clear HB; have HB := n0_; clear n0_ hb hbox hg; have hcz0 : w1.cell? ⟨g1, 0, none⟩ = some (.int .i64 0) := (blk_cell BK1.out 0).trans rfl; have hfz0 := blk_frozen BK1.out 0; have hcz1 : w1.cell? ⟨g1, 1, none⟩ = some (.int .i64 0) := (blk_cell BK1.out 1).trans rfl; have hfz1 := blk_frozen BK1.out 1; have hcz2 : w1.cell? ⟨g1, 2, none⟩ = some (.int .i64 0) := (blk_cell BK1.out 2).trans rfl; have hfz2 := blk_frozen BK1.out 2; have hcz3 : w1.cell? ⟨g1, 3, none⟩ = some (.int .i64 0) := (blk_cell BK1.out 3).trans rfl; have hfz3 := blk_frozen BK1.out 3; have hcz4 : w1.cell? ⟨g1, 4, none⟩ = some (.int .i64 0) := (blk_cell BK1.out 4).trans rfl; have hfz4 := blk_frozen BK1.out 4; have hcz5 : w1.cell? ⟨g1, 5, none⟩ = some (.int .i64 0) := (blk_cell BK1.out 5).trans rfl; have hfz5 := blk_frozen BK1.out 5; have hcz6 : w1.cell? ⟨g1, 6, none⟩ = some (.int .i64 0) := (blk_cell BK1.out 6).trans rfl; have hfz6 := blk_frozen BK1.out 6))
 have N2 : Aside0 ((((((((w1.setCell ⟨g1, 0, none⟩ (.int .i64 0)).setCell ⟨g1, 1, none⟩ (.int .i64 1)).setCell ⟨g1, 2, none⟩ (.int .i64 2)).setCell ⟨g1, 3, none⟩ (.int .i64 3)).setCell ⟨g1, 4, none⟩ (.int .i64 5)).setCell ⟨g1, 5, none⟩ (.int .i64 8)).setCell ⟨g1, 6, none⟩ (.int .i64 10)).heap[g1]? = some (.cells #[.int .i64 0, .int .i64 1, .int .i64 2, .int .i64 3, .int .i64 5, .int .i64 8, .int .i64 10] 76 (0, 0))) := ⟨by refine blk_put (cs := #[.int .i64 0, .int .i64 1, .int .i64 2, .int .i64 3, .int .i64 5, .int .i64 8, .int .i64 0]) ?_ 6 _ rfl; refine blk_put (cs := #[.int .i64 0, .int .i64 1, .int .i64 2, .int .i64 3, .int .i64 5, .int .i64 0, .int .i64 0]) ?_ 5 _ rfl; refine blk_put (cs := #[.int .i64 0, .int .i64 1, .int .i64 2, .int .i64 3, .int .i64 0, .int .i64 0, .int .i64 0]) ?_ 4 _ rfl; refine blk_put (cs := #[.int .i64 0, .int .i64 1, .int .i64 2, .int .i64 0, .int .i64 0, .int .i64 0, .int .i64 0]) ?_ 3 _ rfl; refine blk_put (cs := #[.int .i64 0, .int .i64 1, .int .i64 0, .int .i64 0, .int .i64 0, .int .i64 0, .int .i64 0]) ?_ 2 _ rfl; refine blk_put (cs := #[.int .i64 0, .int .i64 0, .int .i64 0, .int .i64 0, .int .i64 0, .int .i64 0, .int .i64 0]) ?_ 1 _ rfl; refine blk_put (cs := #[.int .i64 0, .int .i64 0, .int .i64 0, .int .i64 0, .int .i64 0, .int .i64 0, .int .i64 0]) ?_ 0 _ rfl; exact BK1.out⟩
 have N3 := Aside0.mk (below_set (g := g1) (j := 6) (v := .int .i64 10) (below_set (g := g1) (j := 5) (v := .int .i64 8) (below_set (g := g1) (j := 4) (v := .int .i64 5) (below_set (g := g1) (j := 3) (v := .int .i64 3) (below_set (g := g1) (j := 2) (v := .int .i64 2) (below_set (g := g1) (j := 1) (v := .int .i64 1) (below_set (g := g1) (j := 0) (v := .int .i64 0) HB.out GE1.out) GE1.out) GE1.out) GE1.out) GE1.out) GE1.out) GE1.out)
 clear hcz0 hfz0 hcz1 hfz1 hcz2 hfz2 hcz3 hfz3 hcz4 hfz4 hcz5 hfz5 hcz6 hfz6 BK1 HB
 generalize (((((((w1.setCell ⟨g1, 0, none⟩ (.int .i64 0)).setCell ⟨g1, 1, none⟩ (.int .i64 1)).setCell ⟨g1, 2, none⟩ (.int .i64 2)).setCell ⟨g1, 3, none⟩ (.int .i64 3)).setCell ⟨g1, 4, none⟩ (.int .i64 5)).setCell ⟨g1, 5, none⟩ (.int .i64 8)).setCell ⟨g1, 6, none⟩ (.int .i64 10)) = W at N2 N3 ⊢
 have hc0 : W.cell? ⟨g1, 0, none⟩ = some (.int .i64 0) := (blk_cell N2.out 0).trans rfl
 have hc1 : W.cell? ⟨g1, 1, none⟩ = some (.int .i64 1) := (blk_cell N2.out 1).trans rfl
 have hc2 : W.cell? ⟨g1, 2, none⟩ = some (.int .i64 2) := (blk_cell N2.out 2).trans rfl
 have hc3 : W.cell? ⟨g1, 3, none⟩ = some (.int .i64 3) := (blk_cell N2.out 3).trans rfl
 have hc4 : W.cell? ⟨g1, 4, none⟩ = some (.int .i64 5) := (blk_cell N2.out 4).trans rfl
 have hc5 : W.cell? ⟨g1, 5, none⟩ = some (.int .i64 8) := (blk_cell N2.out 5).trans rfl
 have hc6 : W.cell? ⟨g1, 6, none⟩ = some (.int .i64 10) := (blk_cell N2.out 6).trans rfl
 go_wp2
 go_ret
 exact ⟨rfl, N3.out⟩
set_option maxHeartbeats 4000000 in
set_option maxRecDepth 100000 in
theorem classify_Speed.calls_lt (a0 : Int) (h : a0 < 1) (w : World) : Calls Try.prog 25 #[.int .i64 a0] w fun e w' => e = .returned (.int .i64 0) ∧ Below w.heap.size w w' := by
 have b1 : decide (a0 < 1) = true := decide_eq_true h
 have hu := Try.underlying76
 have HB := Aside0.mk (Below.refl w.heap.size w)
 go_enter Try.func25, Try.ntmps25
 go_upto_region 2 with (first
  | ((with_reducible refine gate_dst (N := 3) rfl ?_); refine box_event ?hg (N := 3) ?hd (cs := #[.int .i64 0, .int .i64 0, .int .i64 0, .int .i64 0, .int .i64 0, .int .i64 0, .int .i64 0]) (t := 76) ?hr ?_; (case hd => rfl); (case hg => rfl); (case hr => first | (go_simp; done) | (go_simp; rfl)); intro g1 hg w1 hbox hb; have n0_ := Aside0.mk (below_step HB.out hb); have BK1 := Aside0.mk hbox; have GE1 := Aside0.mk ((by rw [hg]; exact (below_size HB.out)) : w.heap.size ≤ g1); clear HB; have HB := n0_; clear n0_ hb hbox hg; have hcz0 : w1.cell? ⟨g1, 0, none⟩ = some (.int .i64 0) := (blk_cell BK1.out 0).trans rfl; have hfz0 := blk_frozen BK1.out 0; have hcz1 : w1.cell? ⟨g1, 1, none⟩ = some (.int .i64 0) := (blk_cell BK1.out 1).trans rfl; have hfz1 := blk_frozen BK1.out 1; have hcz2 : w1.cell? ⟨g1, 2, none⟩ = some (.int .i64 0) := (blk_cell BK1.out 2).trans rfl; have hfz2 := blk_frozen BK1.out 2; have hcz3 : w1.cell? ⟨g1, 3, none⟩ = some (.int .i64 0) := (blk_cell BK1.out 3).trans rfl; have hfz3 := blk_frozen BK1.out 3; have hcz4 : w1.cell? ⟨g1, 4, none⟩ = some (.int .i64 0) := (blk_cell BK1.out 4).trans rfl; have hfz4 := blk_frozen BK1.out 4; have hcz5 : w1.cell? ⟨g1, 5, none⟩ = some (.int .i64 0) := (blk_cell BK1.out 5).trans rfl; have hfz5 := blk_frozen BK1.out 5; have hcz6 : w1.cell? ⟨g1, 6, none⟩ = some (.int .i64 0) := (blk_cell BK1.out 6).trans rfl; have hfz6 := blk_frozen BK1.out 6))
 have N2 : Aside0 ((((((((w1.setCell ⟨g1, 0, none⟩ (.int .i64 0)).setCell ⟨g1, 1, none⟩ (.int .i64 1)).setCell ⟨g1, 2, none⟩ (.int .i64 2)).setCell ⟨g1, 3, none⟩ (.int .i64 3)).setCell ⟨g1, 4, none⟩ (.int .i64 5)).setCell ⟨g1, 5, none⟩ (.int .i64 8)).setCell ⟨g1, 6, none⟩ (.int .i64 10)).heap[g1]? = some (.cells #[.int .i64 0, .int .i64 1, .int .i64 2, .int .i64 3, .int .i64 5, .int .i64 8, .int .i64 10] 76 (0, 0))) := ⟨by refine blk_put (cs := #[.int .i64 0, .int .i64 1, .int .i64 2, .int .i64 3, .int .i64 5, .int .i64 8, .int .i64 0]) ?_ 6 _ rfl; refine blk_put (cs := #[.int .i64 0, .int .i64 1, .int .i64 2, .int .i64 3, .int .i64 5, .int .i64 0, .int .i64 0]) ?_ 5 _ rfl; refine blk_put (cs := #[.int .i64 0, .int .i64 1, .int .i64 2, .int .i64 3, .int .i64 0, .int .i64 0, .int .i64 0]) ?_ 4 _ rfl; refine blk_put (cs := #[.int .i64 0, .int .i64 1, .int .i64 2, .int .i64 0, .int .i64 0, .int .i64 0, .int .i64 0]) ?_ 3 _ rfl; refine blk_put (cs := #[.int .i64 0, .int .i64 1, .int .i64 0, .int .i64 0, .int .i64 0, .int .i64 0, .int .i64 0]) ?_ 2 _ rfl; refine blk_put (cs := #[.int .i64 0, .int .i64 0, .int .i64 0, .int .i64 0, .int .i64 0, .int .i64 0, .int .i64 0]) ?_ 1 _ rfl; refine blk_put (cs := #[.int .i64 0, .int .i64 0, .int .i64 0, .int .i64 0, .int .i64 0, .int .i64 0, .int .i64 0]) ?_ 0 _ rfl; exact BK1.out⟩
 have N3 := Aside0.mk (below_set (g := g1) (j := 6) (v := .int .i64 10) (below_set (g := g1) (j := 5) (v := .int .i64 8) (below_set (g := g1) (j := 4) (v := .int .i64 5) (below_set (g := g1) (j := 3) (v := .int .i64 3) (below_set (g := g1) (j := 2) (v := .int .i64 2) (below_set (g := g1) (j := 1) (v := .int .i64 1) (below_set (g := g1) (j := 0) (v := .int .i64 0) HB.out GE1.out) GE1.out) GE1.out) GE1.out) GE1.out) GE1.out) GE1.out)
 clear hcz0 hfz0 hcz1 hfz1 hcz2 hfz2 hcz3 hfz3 hcz4 hfz4 hcz5 hfz5 hcz6 hfz6 BK1 HB
 generalize (((((((w1.setCell ⟨g1, 0, none⟩ (.int .i64 0)).setCell ⟨g1, 1, none⟩ (.int .i64 1)).setCell ⟨g1, 2, none⟩ (.int .i64 2)).setCell ⟨g1, 3, none⟩ (.int .i64 3)).setCell ⟨g1, 4, none⟩ (.int .i64 5)).setCell ⟨g1, 5, none⟩ (.int .i64 8)).setCell ⟨g1, 6, none⟩ (.int .i64 10)) = W at N2 N3 ⊢
 have hc0 : W.cell? ⟨g1, 0, none⟩ = some (.int .i64 0) := (blk_cell N2.out 0).trans rfl
 have hc1 : W.cell? ⟨g1, 1, none⟩ = some (.int .i64 1) := (blk_cell N2.out 1).trans rfl
 have hc2 : W.cell? ⟨g1, 2, none⟩ = some (.int .i64 2) := (blk_cell N2.out 2).trans rfl
 have hc3 : W.cell? ⟨g1, 3, none⟩ = some (.int .i64 3) := (blk_cell N2.out 3).trans rfl
 have hc4 : W.cell? ⟨g1, 4, none⟩ = some (.int .i64 5) := (blk_cell N2.out 4).trans rfl
 have hc5 : W.cell? ⟨g1, 5, none⟩ = some (.int .i64 8) := (blk_cell N2.out 5).trans rfl
 have hc6 : W.cell? ⟨g1, 6, none⟩ = some (.int .i64 10) := (blk_cell N2.out 6).trans rfl
 go_wp2
 go_ret
 exact ⟨rfl, N3.out⟩
set_option maxHeartbeats 4000000 in
set_option maxRecDepth 100000 in
theorem classify_Speed.calls_ge (a0 : Int) (h : 7 ≤ a0) (w : World) : Calls Try.prog 25 #[.int .i64 a0] w fun e w' => e = .returned (.int .i64 0) ∧ Below w.heap.size w w' := by
 have b0 : ¬ a0 < 1 := by omega
 have b1 : decide (a0 < 1) = false := decide_eq_false b0
 have b2 : decide (7 ≤ a0) = true := decide_eq_true h
 have b3 : decide (a0 ≥ 7) = true := decide_eq_true h
 have hu := Try.underlying76
 have HB := Aside0.mk (Below.refl w.heap.size w)
 go_enter Try.func25, Try.ntmps25
 go_upto_region 2 with (first
  | ((with_reducible refine gate_dst (N := 3) rfl ?_); refine box_event ?hg (N := 3) ?hd (cs := #[.int .i64 0, .int .i64 0, .int .i64 0, .int .i64 0, .int .i64 0, .int .i64 0, .int .i64 0]) (t := 76) ?hr ?_; (case hd => rfl); (case hg => rfl); (case hr => first | (go_simp; done) | (go_simp; rfl)); intro g1 hg w1 hbox hb; have n0_ := Aside0.mk (below_step HB.out hb); have BK1 := Aside0.mk hbox; have GE1 := Aside0.mk ((by rw [hg]; exact (below_size HB.out)) : w.heap.size ≤ g1); clear HB; have HB := n0_; clear n0_ hb hbox hg; have hcz0 : w1.cell? ⟨g1, 0, none⟩ = some (.int .i64 0) := (blk_cell BK1.out 0).trans rfl; have hfz0 := blk_frozen BK1.out 0; have hcz1 : w1.cell? ⟨g1, 1, none⟩ = some (.int .i64 0) := (blk_cell BK1.out 1).trans rfl; have hfz1 := blk_frozen BK1.out 1; have hcz2 : w1.cell? ⟨g1, 2, none⟩ = some (.int .i64 0) := (blk_cell BK1.out 2).trans rfl; have hfz2 := blk_frozen BK1.out 2; have hcz3 : w1.cell? ⟨g1, 3, none⟩ = some (.int .i64 0) := (blk_cell BK1.out 3).trans rfl; have hfz3 := blk_frozen BK1.out 3; have hcz4 : w1.cell? ⟨g1, 4, none⟩ = some (.int .i64 0) := (blk_cell BK1.out 4).trans rfl; have hfz4 := blk_frozen BK1.out 4; have hcz5 : w1.cell? ⟨g1, 5, none⟩ = some (.int .i64 0) := (blk_cell BK1.out 5).trans rfl; have hfz5 := blk_frozen BK1.out 5; have hcz6 : w1.cell? ⟨g1, 6, none⟩ = some (.int .i64 0) := (blk_cell BK1.out 6).trans rfl; have hfz6 := blk_frozen BK1.out 6))
 have N2 : Aside0 ((((((((w1.setCell ⟨g1, 0, none⟩ (.int .i64 0)).setCell ⟨g1, 1, none⟩ (.int .i64 1)).setCell ⟨g1, 2, none⟩ (.int .i64 2)).setCell ⟨g1, 3, none⟩ (.int .i64 3)).setCell ⟨g1, 4, none⟩ (.int .i64 5)).setCell ⟨g1, 5, none⟩ (.int .i64 8)).setCell ⟨g1, 6, none⟩ (.int .i64 10)).heap[g1]? = some (.cells #[.int .i64 0, .int .i64 1, .int .i64 2, .int .i64 3, .int .i64 5, .int .i64 8, .int .i64 10] 76 (0, 0))) := ⟨by refine blk_put (cs := #[.int .i64 0, .int .i64 1, .int .i64 2, .int .i64 3, .int .i64 5, .int .i64 8, .int .i64 0]) ?_ 6 _ rfl; refine blk_put (cs := #[.int .i64 0, .int .i64 1, .int .i64 2, .int .i64 3, .int .i64 5, .int .i64 0, .int .i64 0]) ?_ 5 _ rfl; refine blk_put (cs := #[.int .i64 0, .int .i64 1, .int .i64 2, .int .i64 3, .int .i64 0, .int .i64 0, .int .i64 0]) ?_ 4 _ rfl; refine blk_put (cs := #[.int .i64 0, .int .i64 1, .int .i64 2, .int .i64 0, .int .i64 0, .int .i64 0, .int .i64 0]) ?_ 3 _ rfl; refine blk_put (cs := #[.int .i64 0, .int .i64 1, .int .i64 0, .int .i64 0, .int .i64 0, .int .i64 0, .int .i64 0]) ?_ 2 _ rfl; refine blk_put (cs := #[.int .i64 0, .int .i64 0, .int .i64 0, .int .i64 0, .int .i64 0, .int .i64 0, .int .i64 0]) ?_ 1 _ rfl; refine blk_put (cs := #[.int .i64 0, .int .i64 0, .int .i64 0, .int .i64 0, .int .i64 0, .int .i64 0, .int .i64 0]) ?_ 0 _ rfl; exact BK1.out⟩
 have N3 := Aside0.mk (below_set (g := g1) (j := 6) (v := .int .i64 10) (below_set (g := g1) (j := 5) (v := .int .i64 8) (below_set (g := g1) (j := 4) (v := .int .i64 5) (below_set (g := g1) (j := 3) (v := .int .i64 3) (below_set (g := g1) (j := 2) (v := .int .i64 2) (below_set (g := g1) (j := 1) (v := .int .i64 1) (below_set (g := g1) (j := 0) (v := .int .i64 0) HB.out GE1.out) GE1.out) GE1.out) GE1.out) GE1.out) GE1.out) GE1.out)
 clear hcz0 hfz0 hcz1 hfz1 hcz2 hfz2 hcz3 hfz3 hcz4 hfz4 hcz5 hfz5 hcz6 hfz6 BK1 HB
 generalize (((((((w1.setCell ⟨g1, 0, none⟩ (.int .i64 0)).setCell ⟨g1, 1, none⟩ (.int .i64 1)).setCell ⟨g1, 2, none⟩ (.int .i64 2)).setCell ⟨g1, 3, none⟩ (.int .i64 3)).setCell ⟨g1, 4, none⟩ (.int .i64 5)).setCell ⟨g1, 5, none⟩ (.int .i64 8)).setCell ⟨g1, 6, none⟩ (.int .i64 10)) = W at N2 N3 ⊢
 have hc0 : W.cell? ⟨g1, 0, none⟩ = some (.int .i64 0) := (blk_cell N2.out 0).trans rfl
 have hc1 : W.cell? ⟨g1, 1, none⟩ = some (.int .i64 1) := (blk_cell N2.out 1).trans rfl
 have hc2 : W.cell? ⟨g1, 2, none⟩ = some (.int .i64 2) := (blk_cell N2.out 2).trans rfl
 have hc3 : W.cell? ⟨g1, 3, none⟩ = some (.int .i64 3) := (blk_cell N2.out 3).trans rfl
 have hc4 : W.cell? ⟨g1, 4, none⟩ = some (.int .i64 5) := (blk_cell N2.out 4).trans rfl
 have hc5 : W.cell? ⟨g1, 5, none⟩ = some (.int .i64 8) := (blk_cell N2.out 5).trans rfl
 have hc6 : W.cell? ⟨g1, 6, none⟩ = some (.int .i64 10) := (blk_cell N2.out 6).trans rfl
 go_wp2
 go_ret
 exact ⟨rfl, N3.out⟩
theorem classify_Speed.calls (a0 : Int) (r : Int) (w : World) (h : classify_Speed.f a0 = some r) :
  Calls Try.prog 25 #[.int .i64 a0] w fun e w' => e = .returned (.int .i64 r) ∧ Below w.heap.size w w' := by
 unfold classify_Speed.f at h
 by_cases c0 : a0 < 1
 ·rw [if_pos c0] at h
  obtain rfl := Option.some.inj h
  exact classify_Speed.calls_lt a0 c0 w
 rw [if_neg c0] at h
 by_cases c1 : a0 ≥ 7
 ·rw [if_pos c1] at h
  obtain rfl := Option.some.inj h
  exact classify_Speed.calls_ge a0 c1 w
 rw [if_neg c1] at h
 by_cases d1 : a0 = 1
 ·rw [if_pos d1] at h
  obtain rfl := Option.some.inj h
  rw [d1]
  exact classify_Speed.calls1 w
 rw [if_neg d1] at h
 by_cases d2 : a0 = 2
 ·rw [if_pos d2] at h
  obtain rfl := Option.some.inj h
  rw [d2]
  exact classify_Speed.calls2 w
 rw [if_neg d2] at h
 by_cases d3 : a0 = 3
 ·rw [if_pos d3] at h
  obtain rfl := Option.some.inj h
  rw [d3]
  exact classify_Speed.calls3 w
 rw [if_neg d3] at h
 by_cases d4 : a0 = 4
 ·rw [if_pos d4] at h
  obtain rfl := Option.some.inj h
  rw [d4]
  exact classify_Speed.calls4 w
 rw [if_neg d4] at h
 by_cases d5 : a0 = 5
 ·rw [if_pos d5] at h
  obtain rfl := Option.some.inj h
  rw [d5]
  exact classify_Speed.calls5 w
 rw [if_neg d5] at h
 obtain rfl := Option.some.inj h
 have d6 : a0 = 6 := by omega
 rw [d6]
 exact classify_Speed.calls6 w

end Go.Proofs.Ytpjeomjingocbaa.PAll
