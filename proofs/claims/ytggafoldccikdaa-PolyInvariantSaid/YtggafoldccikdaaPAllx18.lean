import Derived.Test.YtggafoldccikdaaPAllx0
import Derived.Test.YtggafoldccikdaaPAllx1
import Derived.Test.YtggafoldccikdaaPAllx12
namespace Go.Proofs.Ytggafoldccikdaa.PAll
open Go.RowKit Go.Proofs.YtggafoldccikdaaW.PrintWords Go.Proofs.YtggafoldccikdaaW.PrintLast Go.Proofs.YtggafoldccikdaaW.PrintMore
attribute [local go_sem] max2_int min2_int max_two min_two max_three min_three max_four min_four
set_option linter.unusedVariables false
set_option linter.unusedSimpArgs false
attribute [local irreducible] Calls

/-! ### poly_Where: function 17 -/
def crossUp (k : Nat) (a b p : S30) : Option Bool := if a.f1 ≤ p.f1 then (if b.f1 > p.f1 then (seg_Turn.f k a.f0 a.f1 b.f0 b.f1 p.f0 p.f1).bind fun t => some (decide (t > 0)) else some false) else some false
def crossOf (k : Nat) (a b p : S30) : Option Bool := if a.f1 > b.f1 then crossUp k b a p else crossUp k a b p
def whereFrom (k : Nat) (l : List (S30)) (p : S30) : Nat → Nat → Bool → Option Int
 | 0, _, ins => some (if ins = true then 2 else 0)
 | d + 1, i, ins => (seg_On.f k p.f0 p.f1 (rd_T30 l i).f0 (rd_T30 l i).f1 (rd_T30 l ((i + 1) % l.length : Nat)).f0 (rd_T30 l ((i + 1) % l.length : Nat)).f1).bind fun on => (crossOf k (rd_T30 l i) (rd_T30 l ((i + 1) % l.length : Nat)) p).bind fun cr => if on = true then some 1 else whereFrom k l p d (i + 1) (ins != cr)
theorem poly_two_set {w : World} {g t : Nat} {x y x2 y2 : Value} (h : w.heap[g]? = some (.cells #[x, y] t (0, 0))) : ((w.setCell ⟨g, 0, none⟩ x2).setCell ⟨g, 1, none⟩ y2).heap[g]? = some (.cells #[x2, y2] t (0, 0)) ∧ ∀ k, k ≠ g → ((w.setCell ⟨g, 0, none⟩ x2).setCell ⟨g, 1, none⟩ y2).heap[k]? = w.heap[k]? :=
 ⟨blk_set (cs := #[x2, y]) (blk_set (cs := #[x, y]) h 0 x2) 1 y2, fun k hk => (Below.heap_setCell _ ⟨g, 1, none⟩ _ k hk).trans (Below.heap_setCell _ ⟨g, 0, none⟩ _ k hk)⟩
set_option maxHeartbeats 8000000 in
set_option maxRecDepth 100000 in
theorem poly_crosses_up (k : Nat) (a b c d e f : Int) (r : Bool) (w : World) (c0 : b ≤ d) (h : crossUp k ⟨a, b⟩ ⟨c, d⟩ ⟨e, f⟩ = some r) :
  Calls Try.prog 40 #[.agg #[.int .i64 a, .int .i64 b], .agg #[.int .i64 c, .int .i64 d], .agg #[.int .i64 e, .int .i64 f]] w fun e w' => e = .returned (.bool r) ∧ Below w.heap.size w w' := by
 have c0' : decide (d < b) = false := decide_eq_false (by omega)
 unfold crossUp at h
 dsimp only at h
 by_cases c1 : b ≤ f
 ·rw [if_pos c1] at h
  by_cases c2 : d > f
  ·rw [if_pos c2] at h
   obtain ⟨t, ht, h⟩ := Option.bind_eq_some_iff.1 h
   obtain rfl := Option.some.inj h
   have HT := Aside0.mk (fun w2 => seg_Turn.calls k a b c d e f t w2 ht)
   have c2' : decide (f < d) = true := decide_eq_true c2
   clear ht h
   go_enter Try.func40, Try.ntmps40
   go_wp2_with (first
    | ((with_reducible refine gate_dst (N := 3) rfl ?_); refine box_event ?hgg1_AFalse (N := 3) ?hdg1_AFalse (cs := #[.int .i64 a, .int .i64 b]) (t := 30) ?hrg1_AFalse ?_; (case hdg1_AFalse => rfl); (case hgg1_AFalse => rfl); (case hrg1_AFalse => first | (go_simp; done) | (go_simp; rfl)); intro g1 hg_ w1 hbox_ hb_; have HB1 := Aside0.mk hb_; have BKa := Aside0.mk hbox_; have HG1 := Aside0.mk (show w.heap.size ≤ g1 from by rw [hg_]; exact Nat.le_refl _); clear hbox_ hb_ hg_)
    | ((with_reducible refine gate_dst (N := 4) rfl ?_); refine box_event ?hgg2_AFalse (N := 4) ?hdg2_AFalse (cs := #[.int .i64 c, .int .i64 d]) (t := 30) ?hrg2_AFalse ?_; (case hdg2_AFalse => rfl); (case hgg2_AFalse => rfl); (case hrg2_AFalse => first | (go_simp; done) | (go_simp; rfl)); intro g2 hg_ w2 hbox_ hb_; have HB2 := Aside0.mk (below_step HB1.out hb_); have BKa2 := Aside0.mk (blk_below BKa.out hb_); have BKb2 := Aside0.mk hbox_; have HN12 := Aside0.mk (show g1 ≠ g2 from by rw [hg_]; exact Nat.ne_of_lt (blk_lt BKa.out)); have HG2 := Aside0.mk (show w.heap.size ≤ g2 from by rw [hg_]; exact HB1.out.size); clear hbox_ hb_ hg_)
    | ((with_reducible refine gate_dst (N := 5) rfl ?_); refine box_event ?hgg3_AFalse (N := 5) ?hdg3_AFalse (cs := #[.int .i64 e, .int .i64 f]) (t := 30) ?hrg3_AFalse ?_; (case hdg3_AFalse => rfl); (case hgg3_AFalse => rfl); (case hrg3_AFalse => first | (go_simp; done) | (go_simp; rfl)); intro g3 hg_ w3 hbox_ hb_; have HB3 := Aside0.mk (below_step HB2.out hb_); have BKa3 := Aside0.mk (blk_below BKa2.out hb_); have BKb3 := Aside0.mk (blk_below BKb2.out hb_); have BKc3 := Aside0.mk hbox_; have HN13 := Aside0.mk (show g1 ≠ g3 from by rw [hg_]; exact Nat.ne_of_lt (blk_lt BKa2.out)); have HN23 := Aside0.mk (show g2 ≠ g3 from by rw [hg_]; exact Nat.ne_of_lt (blk_lt BKb2.out)); have x0 := (blk_cell BKa3.out 0).trans rfl; have x1 := (blk_cell BKa3.out 1).trans rfl; have y0 := (blk_cell BKb3.out 0).trans rfl; have y1 := (blk_cell BKb3.out 1).trans rfl; have iz0 := (blk_cell BKc3.out 0).trans rfl; have iz1 := (blk_cell BKc3.out 1).trans rfl; have fx0 := blk_frozen BKa3.out 0; have fx1 := blk_frozen BKa3.out 1; have fy0 := blk_frozen BKb3.out 0; have fy1 := blk_frozen BKb3.out 1; have hn12 := HN12.out; have hn21 := Ne.symm HN12.out; clear hbox_ hb_ hg_)
    | (go_at_call 52; refine (HT.out _).mono ?_; rintro e w9 ⟨rfl, hb⟩; have HB9 := Aside0.mk (below_step HB3.out hb); clear hb))
   go_ret
   exact ⟨by first | rfl | (simp; done) | (simp [*]; done), HB9.out⟩
  ·rw [if_neg c2] at h
   obtain rfl := Option.some.inj h
   have c2' : decide (f < d) = false := decide_eq_false c2
   clear h c2
   go_enter Try.func40, Try.ntmps40
   go_wp2_with (first
    | ((with_reducible refine gate_dst (N := 3) rfl ?_); refine box_event ?hgg1_BFalse (N := 3) ?hdg1_BFalse (cs := #[.int .i64 a, .int .i64 b]) (t := 30) ?hrg1_BFalse ?_; (case hdg1_BFalse => rfl); (case hgg1_BFalse => rfl); (case hrg1_BFalse => first | (go_simp; done) | (go_simp; rfl)); intro g1 hg_ w1 hbox_ hb_; have HB1 := Aside0.mk hb_; have BKa := Aside0.mk hbox_; have HG1 := Aside0.mk (show w.heap.size ≤ g1 from by rw [hg_]; exact Nat.le_refl _); clear hbox_ hb_ hg_)
    | ((with_reducible refine gate_dst (N := 4) rfl ?_); refine box_event ?hgg2_BFalse (N := 4) ?hdg2_BFalse (cs := #[.int .i64 c, .int .i64 d]) (t := 30) ?hrg2_BFalse ?_; (case hdg2_BFalse => rfl); (case hgg2_BFalse => rfl); (case hrg2_BFalse => first | (go_simp; done) | (go_simp; rfl)); intro g2 hg_ w2 hbox_ hb_; have HB2 := Aside0.mk (below_step HB1.out hb_); have BKa2 := Aside0.mk (blk_below BKa.out hb_); have BKb2 := Aside0.mk hbox_; have HN12 := Aside0.mk (show g1 ≠ g2 from by rw [hg_]; exact Nat.ne_of_lt (blk_lt BKa.out)); have HG2 := Aside0.mk (show w.heap.size ≤ g2 from by rw [hg_]; exact HB1.out.size); clear hbox_ hb_ hg_)
    | ((with_reducible refine gate_dst (N := 5) rfl ?_); refine box_event ?hgg3_BFalse (N := 5) ?hdg3_BFalse (cs := #[.int .i64 e, .int .i64 f]) (t := 30) ?hrg3_BFalse ?_; (case hdg3_BFalse => rfl); (case hgg3_BFalse => rfl); (case hrg3_BFalse => first | (go_simp; done) | (go_simp; rfl)); intro g3 hg_ w3 hbox_ hb_; have HB3 := Aside0.mk (below_step HB2.out hb_); have BKa3 := Aside0.mk (blk_below BKa2.out hb_); have BKb3 := Aside0.mk (blk_below BKb2.out hb_); have BKc3 := Aside0.mk hbox_; have HN13 := Aside0.mk (show g1 ≠ g3 from by rw [hg_]; exact Nat.ne_of_lt (blk_lt BKa2.out)); have HN23 := Aside0.mk (show g2 ≠ g3 from by rw [hg_]; exact Nat.ne_of_lt (blk_lt BKb2.out)); have x0 := (blk_cell BKa3.out 0).trans rfl; have x1 := (blk_cell BKa3.out 1).trans rfl; have y0 := (blk_cell BKb3.out 0).trans rfl; have y1 := (blk_cell BKb3.out 1).trans rfl; have iz0 := (blk_cell BKc3.out 0).trans rfl; have iz1 := (blk_cell BKc3.out 1).trans rfl; have fx0 := blk_frozen BKa3.out 0; have fx1 := blk_frozen BKa3.out 1; have fy0 := blk_frozen BKb3.out 0; have fy1 := blk_frozen BKb3.out 1; have hn12 := HN12.out; have hn21 := Ne.symm HN12.out; clear hbox_ hb_ hg_))
   go_ret
   exact ⟨by first | rfl | (simp; done) | (simp [*]; done), HB3.out⟩
 ·rw [if_neg c1] at h
  obtain rfl := Option.some.inj h
  have c1' : decide (b ≤ f) = false := decide_eq_false c1
  clear h c1
  go_enter Try.func40, Try.ntmps40
  go_wp2_with (first
   | ((with_reducible refine gate_dst (N := 3) rfl ?_); refine box_event ?hgg1_CFalse (N := 3) ?hdg1_CFalse (cs := #[.int .i64 a, .int .i64 b]) (t := 30) ?hrg1_CFalse ?_; (case hdg1_CFalse => rfl); (case hgg1_CFalse => rfl); (case hrg1_CFalse => first | (go_simp; done) | (go_simp; rfl)); intro g1 hg_ w1 hbox_ hb_; have HB1 := Aside0.mk hb_; have BKa := Aside0.mk hbox_; have HG1 := Aside0.mk (show w.heap.size ≤ g1 from by rw [hg_]; exact Nat.le_refl _); clear hbox_ hb_ hg_)
   | ((with_reducible refine gate_dst (N := 4) rfl ?_); refine box_event ?hgg2_CFalse (N := 4) ?hdg2_CFalse (cs := #[.int .i64 c, .int .i64 d]) (t := 30) ?hrg2_CFalse ?_; (case hdg2_CFalse => rfl); (case hgg2_CFalse => rfl); (case hrg2_CFalse => first | (go_simp; done) | (go_simp; rfl)); intro g2 hg_ w2 hbox_ hb_; have HB2 := Aside0.mk (below_step HB1.out hb_); have BKa2 := Aside0.mk (blk_below BKa.out hb_); have BKb2 := Aside0.mk hbox_; have HN12 := Aside0.mk (show g1 ≠ g2 from by rw [hg_]; exact Nat.ne_of_lt (blk_lt BKa.out)); have HG2 := Aside0.mk (show w.heap.size ≤ g2 from by rw [hg_]; exact HB1.out.size); clear hbox_ hb_ hg_)
   | ((with_reducible refine gate_dst (N := 5) rfl ?_); refine box_event ?hgg3_CFalse (N := 5) ?hdg3_CFalse (cs := #[.int .i64 e, .int .i64 f]) (t := 30) ?hrg3_CFalse ?_; (case hdg3_CFalse => rfl); (case hgg3_CFalse => rfl); (case hrg3_CFalse => first | (go_simp; done) | (go_simp; rfl)); intro g3 hg_ w3 hbox_ hb_; have HB3 := Aside0.mk (below_step HB2.out hb_); have BKa3 := Aside0.mk (blk_below BKa2.out hb_); have BKb3 := Aside0.mk (blk_below BKb2.out hb_); have BKc3 := Aside0.mk hbox_; have HN13 := Aside0.mk (show g1 ≠ g3 from by rw [hg_]; exact Nat.ne_of_lt (blk_lt BKa2.out)); have HN23 := Aside0.mk (show g2 ≠ g3 from by rw [hg_]; exact Nat.ne_of_lt (blk_lt BKb2.out)); have x0 := (blk_cell BKa3.out 0).trans rfl; have x1 := (blk_cell BKa3.out 1).trans rfl; have y0 := (blk_cell BKb3.out 0).trans rfl; have y1 := (blk_cell BKb3.out 1).trans rfl; have iz0 := (blk_cell BKc3.out 0).trans rfl; have iz1 := (blk_cell BKc3.out 1).trans rfl; have fx0 := blk_frozen BKa3.out 0; have fx1 := blk_frozen BKa3.out 1; have fy0 := blk_frozen BKb3.out 0; have fy1 := blk_frozen BKb3.out 1; have hn12 := HN12.out; have hn21 := Ne.symm HN12.out; clear hbox_ hb_ hg_))
  go_ret
  exact ⟨by first | rfl | (simp; done) | (simp [*]; done), HB3.out⟩
set_option maxHeartbeats 8000000 in
set_option maxRecDepth 100000 in
theorem poly_crosses_down (k : Nat) (a b c d e f : Int) (r : Bool) (w : World) (c0 : d < b) (h : crossUp k ⟨c, d⟩ ⟨a, b⟩ ⟨e, f⟩ = some r) :
  Calls Try.prog 40 #[.agg #[.int .i64 a, .int .i64 b], .agg #[.int .i64 c, .int .i64 d], .agg #[.int .i64 e, .int .i64 f]] w fun e w' => e = .returned (.bool r) ∧ Below w.heap.size w w' := by
 unfold crossUp at h
 dsimp only at h
 by_cases c1 : d ≤ f
 ·rw [if_pos c1] at h
  by_cases c2 : b > f
  ·rw [if_pos c2] at h
   obtain ⟨t, ht, h⟩ := Option.bind_eq_some_iff.1 h
   obtain rfl := Option.some.inj h
   have HT := Aside0.mk (fun w2 => seg_Turn.calls k c d a b e f t w2 ht)
   have c2' : decide (f < b) = true := decide_eq_true c2
   clear ht h
   go_enter Try.func40, Try.ntmps40
   go_wp2_with (first
    | ((with_reducible refine gate_dst (N := 3) rfl ?_); refine box_event ?hgg1_ATrue (N := 3) ?hdg1_ATrue (cs := #[.int .i64 a, .int .i64 b]) (t := 30) ?hrg1_ATrue ?_; (case hdg1_ATrue => rfl); (case hgg1_ATrue => rfl); (case hrg1_ATrue => first | (go_simp; done) | (go_simp; rfl)); intro g1 hg_ w1 hbox_ hb_; have HB1 := Aside0.mk hb_; have BKa := Aside0.mk hbox_; have HG1 := Aside0.mk (show w.heap.size ≤ g1 from by rw [hg_]; exact Nat.le_refl _); clear hbox_ hb_ hg_)
    | ((with_reducible refine gate_dst (N := 4) rfl ?_); refine box_event ?hgg2_ATrue (N := 4) ?hdg2_ATrue (cs := #[.int .i64 c, .int .i64 d]) (t := 30) ?hrg2_ATrue ?_; (case hdg2_ATrue => rfl); (case hgg2_ATrue => rfl); (case hrg2_ATrue => first | (go_simp; done) | (go_simp; rfl)); intro g2 hg_ w2 hbox_ hb_; have HB2 := Aside0.mk (below_step HB1.out hb_); have BKa2 := Aside0.mk (blk_below BKa.out hb_); have BKb2 := Aside0.mk hbox_; have HN12 := Aside0.mk (show g1 ≠ g2 from by rw [hg_]; exact Nat.ne_of_lt (blk_lt BKa.out)); have HG2 := Aside0.mk (show w.heap.size ≤ g2 from by rw [hg_]; exact HB1.out.size); clear hbox_ hb_ hg_)
    | ((with_reducible refine gate_dst (N := 5) rfl ?_); refine box_event ?hgg3_ATrue (N := 5) ?hdg3_ATrue (cs := #[.int .i64 e, .int .i64 f]) (t := 30) ?hrg3_ATrue ?_; (case hdg3_ATrue => rfl); (case hgg3_ATrue => rfl); (case hrg3_ATrue => first | (go_simp; done) | (go_simp; rfl)); intro g3 hg_ w3 hbox_ hb_; have HB3 := Aside0.mk (below_step HB2.out hb_); have BKa3 := Aside0.mk (blk_below BKa2.out hb_); have BKb3 := Aside0.mk (blk_below BKb2.out hb_); have BKc3 := Aside0.mk hbox_; have HN13 := Aside0.mk (show g1 ≠ g3 from by rw [hg_]; exact Nat.ne_of_lt (blk_lt BKa2.out)); have HN23 := Aside0.mk (show g2 ≠ g3 from by rw [hg_]; exact Nat.ne_of_lt (blk_lt BKb2.out)); have x0 := (blk_cell BKa3.out 0).trans rfl; have x1 := (blk_cell BKa3.out 1).trans rfl; have y0 := (blk_cell BKb3.out 0).trans rfl; have y1 := (blk_cell BKb3.out 1).trans rfl; have iz0 := (blk_cell BKc3.out 0).trans rfl; have iz1 := (blk_cell BKc3.out 1).trans rfl; have fx0 := blk_frozen BKa3.out 0; have fx1 := blk_frozen BKa3.out 1; have fy0 := blk_frozen BKb3.out 0; have fy1 := blk_frozen BKb3.out 1; have hn12 := HN12.out; have hn21 := Ne.symm HN12.out; clear hbox_ hb_ hg_)
    | ((with_reducible refine gate_store (t := 30) (p := 3) rfl ?_); refine store_event (t := 30) (p := 3) (v := ?vos1_ATrue) (w1 := ((w3.setCell ⟨g1, 0, none⟩ (.int .i64 c)).setCell ⟨g1, 1, none⟩ (.int .i64 d))) ?hgs1_ATrue ?hos1_ATrue ?hns1_ATrue ?hrs1_ATrue ?_; (case hos1_ATrue => rfl); (case hgs1_ATrue => rfl); (case hns1_ATrue => rfl); (case hrs1_ATrue => first | (go_simp; done) | (go_simp; rfl)); intro w4 hw; have BKa4 := Aside0.mk (show w4.heap[g1]? = some (.cells #[.int .i64 c, .int .i64 d] 30 (0, 0)) from by (rw [hw]; exact (poly_two_set BKa3.out).1)); have BKb4 := Aside0.mk (show w4.heap[g2]? = some (.cells #[.int .i64 c, .int .i64 d] 30 (0, 0)) from by (rw [hw]; exact ((poly_two_set BKa3.out).2 _ hn21).trans BKb3.out)); have BKc4 := Aside0.mk (show w4.heap[g3]? = some (.cells #[.int .i64 e, .int .i64 f] 30 (0, 0)) from by (rw [hw]; exact ((poly_two_set BKa3.out).2 _ (Ne.symm HN13.out)).trans BKc3.out)); have HB4 := Aside0.mk (show Below w.heap.size w w4 from by (rw [hw]; exact below_set (below_set HB3.out HG1.out) HG1.out)); clear hw x0 x1 y0 y1 iz0 iz1 fx0 fx1 fy0 fy1; have y0 := (blk_cell BKb4.out 0).trans rfl; have y1 := (blk_cell BKb4.out 1).trans rfl; have fy0 := blk_frozen BKb4.out 0; have fy1 := blk_frozen BKb4.out 1)
    | ((with_reducible refine gate_store (t := 30) (p := 4) rfl ?_); refine store_event (t := 30) (p := 4) (v := ?vos2_ATrue) (w1 := ((w4.setCell ⟨g2, 0, none⟩ (.int .i64 a)).setCell ⟨g2, 1, none⟩ (.int .i64 b))) ?hgs2_ATrue ?hos2_ATrue ?hns2_ATrue ?hrs2_ATrue ?_; (case hos2_ATrue => rfl); (case hgs2_ATrue => rfl); (case hns2_ATrue => rfl); (case hrs2_ATrue => first | (go_simp; done) | (go_simp; rfl)); intro w5 hw; have BKa5 := Aside0.mk (show w5.heap[g1]? = some (.cells #[.int .i64 c, .int .i64 d] 30 (0, 0)) from by (rw [hw]; exact ((poly_two_set BKb4.out).2 _ hn12).trans BKa4.out)); have BKb5 := Aside0.mk (show w5.heap[g2]? = some (.cells #[.int .i64 a, .int .i64 b] 30 (0, 0)) from by (rw [hw]; exact (poly_two_set BKb4.out).1)); have BKc5 := Aside0.mk (show w5.heap[g3]? = some (.cells #[.int .i64 e, .int .i64 f] 30 (0, 0)) from by (rw [hw]; exact ((poly_two_set BKb4.out).2 _ (Ne.symm HN23.out)).trans BKc4.out)); have HB5 := Aside0.mk (show Below w.heap.size w w5 from by (rw [hw]; exact below_set (below_set HB4.out HG2.out) HG2.out)); clear hw y0 y1 fy0 fy1; have x0 := (blk_cell BKa5.out 0).trans rfl; have x1 := (blk_cell BKa5.out 1).trans rfl; have y0 := (blk_cell BKb5.out 0).trans rfl; have y1 := (blk_cell BKb5.out 1).trans rfl; have iz0 := (blk_cell BKc5.out 0).trans rfl; have iz1 := (blk_cell BKc5.out 1).trans rfl)
    | (go_at_call 52; refine (HT.out _).mono ?_; rintro e w9 ⟨rfl, hb⟩; have HB9 := Aside0.mk (below_step HB5.out hb); clear hb))
   go_ret
   exact ⟨by first | rfl | (simp; done) | (simp [*]; done), HB9.out⟩
  ·rw [if_neg c2] at h
   obtain rfl := Option.some.inj h
   have c2' : decide (f < b) = false := decide_eq_false c2
   clear h c2
   go_enter Try.func40, Try.ntmps40
   go_wp2_with (first
    | ((with_reducible refine gate_dst (N := 3) rfl ?_); refine box_event ?hgg1_BTrue (N := 3) ?hdg1_BTrue (cs := #[.int .i64 a, .int .i64 b]) (t := 30) ?hrg1_BTrue ?_; (case hdg1_BTrue => rfl); (case hgg1_BTrue => rfl); (case hrg1_BTrue => first | (go_simp; done) | (go_simp; rfl)); intro g1 hg_ w1 hbox_ hb_; have HB1 := Aside0.mk hb_; have BKa := Aside0.mk hbox_; have HG1 := Aside0.mk (show w.heap.size ≤ g1 from by rw [hg_]; exact Nat.le_refl _); clear hbox_ hb_ hg_)
    | ((with_reducible refine gate_dst (N := 4) rfl ?_); refine box_event ?hgg2_BTrue (N := 4) ?hdg2_BTrue (cs := #[.int .i64 c, .int .i64 d]) (t := 30) ?hrg2_BTrue ?_; (case hdg2_BTrue => rfl); (case hgg2_BTrue => rfl); (case hrg2_BTrue => first | (go_simp; done) | (go_simp; rfl)); intro g2 hg_ w2 hbox_ hb_; have HB2 := Aside0.mk (below_step HB1.out hb_); have BKa2 := Aside0.mk (blk_below BKa.out hb_); have BKb2 := Aside0.mk hbox_; have HN12 := Aside0.mk (show g1 ≠ g2 from by rw [hg_]; exact Nat.ne_of_lt (blk_lt BKa.out)); have HG2 := Aside0.mk (show w.heap.size ≤ g2 from by rw [hg_]; exact HB1.out.size); clear hbox_ hb_ hg_)
    | ((with_reducible refine gate_dst (N := 5) rfl ?_); refine box_event ?hgg3_BTrue (N := 5) ?hdg3_BTrue (cs := #[.int .i64 e, .int .i64 f]) (t := 30) ?hrg3_BTrue ?_; (case hdg3_BTrue => rfl); (case hgg3_BTrue => rfl); (case hrg3_BTrue => first | (go_simp; done) | (go_simp; rfl)); intro g3 hg_ w3 hbox_ hb_; have HB3 := Aside0.mk (below_step HB2.out hb_); have BKa3 := Aside0.mk (blk_below BKa2.out hb_); have BKb3 := Aside0.mk (blk_below BKb2.out hb_); have BKc3 := Aside0.mk hbox_; have HN13 := Aside0.mk (show g1 ≠ g3 from by rw [hg_]; exact Nat.ne_of_lt (blk_lt BKa2.out)); have HN23 := Aside0.mk (show g2 ≠ g3 from by rw [hg_]; exact Nat.ne_of_lt (blk_lt BKb2.out)); have x0 := (blk_cell BKa3.out 0).trans rfl; have x1 := (blk_cell BKa3.out 1).trans rfl; have y0 := (blk_cell BKb3.out 0).trans rfl; have y1 := (blk_cell BKb3.out 1).trans rfl; have iz0 := (blk_cell BKc3.out 0).trans rfl; have iz1 := (blk_cell BKc3.out 1).trans rfl; have fx0 := blk_frozen BKa3.out 0; have fx1 := blk_frozen BKa3.out 1; have fy0 := blk_frozen BKb3.out 0; have fy1 := blk_frozen BKb3.out 1; have hn12 := HN12.out; have hn21 := Ne.symm HN12.out; clear hbox_ hb_ hg_)
    | ((with_reducible refine gate_store (t := 30) (p := 3) rfl ?_); refine store_event (t := 30) (p := 3) (v := ?vos1_BTrue) (w1 := ((w3.setCell ⟨g1, 0, none⟩ (.int .i64 c)).setCell ⟨g1, 1, none⟩ (.int .i64 d))) ?hgs1_BTrue ?hos1_BTrue ?hns1_BTrue ?hrs1_BTrue ?_; (case hos1_BTrue => rfl); (case hgs1_BTrue => rfl); (case hns1_BTrue => rfl); (case hrs1_BTrue => first | (go_simp; done) | (go_simp; rfl)); intro w4 hw; have BKa4 := Aside0.mk (show w4.heap[g1]? = some (.cells #[.int .i64 c, .int .i64 d] 30 (0, 0)) from by (rw [hw]; exact (poly_two_set BKa3.out).1)); have BKb4 := Aside0.mk (show w4.heap[g2]? = some (.cells #[.int .i64 c, .int .i64 d] 30 (0, 0)) from by (rw [hw]; exact ((poly_two_set BKa3.out).2 _ hn21).trans BKb3.out)); have BKc4 := Aside0.mk (show w4.heap[g3]? = some (.cells #[.int .i64 e, .int .i64 f] 30 (0, 0)) from by (rw [hw]; exact ((poly_two_set BKa3.out).2 _ (Ne.symm HN13.out)).trans BKc3.out)); have HB4 := Aside0.mk (show Below w.heap.size w w4 from by (rw [hw]; exact below_set (below_set HB3.out HG1.out) HG1.out)); clear hw x0 x1 y0 y1 iz0 iz1 fx0 fx1 fy0 fy1; have y0 := (blk_cell BKb4.out 0).trans rfl; have y1 := (blk_cell BKb4.out 1).trans rfl; have fy0 := blk_frozen BKb4.out 0; have fy1 := blk_frozen BKb4.out 1)
    | ((with_reducible refine gate_store (t := 30) (p := 4) rfl ?_); refine store_event (t := 30) (p := 4) (v := ?vos2_BTrue) (w1 := ((w4.setCell ⟨g2, 0, none⟩ (.int .i64 a)).setCell ⟨g2, 1, none⟩ (.int .i64 b))) ?hgs2_BTrue ?hos2_BTrue ?hns2_BTrue ?hrs2_BTrue ?_; (case hos2_BTrue => rfl); (case hgs2_BTrue => rfl); (case hns2_BTrue => rfl); (case hrs2_BTrue => first | (go_simp; done) | (go_simp; rfl)); intro w5 hw; have BKa5 := Aside0.mk (show w5.heap[g1]? = some (.cells #[.int .i64 c, .int .i64 d] 30 (0, 0)) from by (rw [hw]; exact ((poly_two_set BKb4.out).2 _ hn12).trans BKa4.out)); have BKb5 := Aside0.mk (show w5.heap[g2]? = some (.cells #[.int .i64 a, .int .i64 b] 30 (0, 0)) from by (rw [hw]; exact (poly_two_set BKb4.out).1)); have BKc5 := Aside0.mk (show w5.heap[g3]? = some (.cells #[.int .i64 e, .int .i64 f] 30 (0, 0)) from by (rw [hw]; exact ((poly_two_set BKb4.out).2 _ (Ne.symm HN23.out)).trans BKc4.out)); have HB5 := Aside0.mk (show Below w.heap.size w w5 from by (rw [hw]; exact below_set (below_set HB4.out HG2.out) HG2.out)); clear hw y0 y1 fy0 fy1; have x0 := (blk_cell BKa5.out 0).trans rfl; have x1 := (blk_cell BKa5.out 1).trans rfl; have y0 := (blk_cell BKb5.out 0).trans rfl; have y1 := (blk_cell BKb5.out 1).trans rfl; have iz0 := (blk_cell BKc5.out 0).trans rfl; have iz1 := (blk_cell BKc5.out 1).trans rfl))
   go_ret
   exact ⟨by first | rfl | (simp; done) | (simp [*]; done), HB5.out⟩
 ·rw [if_neg c1] at h
  obtain rfl := Option.some.inj h
  have c1' : decide (d ≤ f) = false := decide_eq_false c1
  clear h c1
  go_enter Try.func40, Try.ntmps40
  go_wp2_with (first
   | ((with_reducible refine gate_dst (N := 3) rfl ?_); refine box_event ?hgg1_CTrue (N := 3) ?hdg1_CTrue (cs := #[.int .i64 a, .int .i64 b]) (t := 30) ?hrg1_CTrue ?_; (case hdg1_CTrue => rfl); (case hgg1_CTrue => rfl); (case hrg1_CTrue => first | (go_simp; done) | (go_simp; rfl)); intro g1 hg_ w1 hbox_ hb_; have HB1 := Aside0.mk hb_; have BKa := Aside0.mk hbox_; have HG1 := Aside0.mk (show w.heap.size ≤ g1 from by rw [hg_]; exact Nat.le_refl _); clear hbox_ hb_ hg_)
   | ((with_reducible refine gate_dst (N := 4) rfl ?_); refine box_event ?hgg2_CTrue (N := 4) ?hdg2_CTrue (cs := #[.int .i64 c, .int .i64 d]) (t := 30) ?hrg2_CTrue ?_; (case hdg2_CTrue => rfl); (case hgg2_CTrue => rfl); (case hrg2_CTrue => first | (go_simp; done) | (go_simp; rfl)); intro g2 hg_ w2 hbox_ hb_; have HB2 := Aside0.mk (below_step HB1.out hb_); have BKa2 := Aside0.mk (blk_below BKa.out hb_); have BKb2 := Aside0.mk hbox_; have HN12 := Aside0.mk (show g1 ≠ g2 from by rw [hg_]; exact Nat.ne_of_lt (blk_lt BKa.out)); have HG2 := Aside0.mk (show w.heap.size ≤ g2 from by rw [hg_]; exact HB1.out.size); clear hbox_ hb_ hg_)
   | ((with_reducible refine gate_dst (N := 5) rfl ?_); refine box_event ?hgg3_CTrue (N := 5) ?hdg3_CTrue (cs := #[.int .i64 e, .int .i64 f]) (t := 30) ?hrg3_CTrue ?_; (case hdg3_CTrue => rfl); (case hgg3_CTrue => rfl); (case hrg3_CTrue => first | (go_simp; done) | (go_simp; rfl)); intro g3 hg_ w3 hbox_ hb_; have HB3 := Aside0.mk (below_step HB2.out hb_); have BKa3 := Aside0.mk (blk_below BKa2.out hb_); have BKb3 := Aside0.mk (blk_below BKb2.out hb_); have BKc3 := Aside0.mk hbox_; have HN13 := Aside0.mk (show g1 ≠ g3 from by rw [hg_]; exact Nat.ne_of_lt (blk_lt BKa2.out)); have HN23 := Aside0.mk (show g2 ≠ g3 from by rw [hg_]; exact Nat.ne_of_lt (blk_lt BKb2.out)); have x0 := (blk_cell BKa3.out 0).trans rfl; have x1 := (blk_cell BKa3.out 1).trans rfl; have y0 := (blk_cell BKb3.out 0).trans rfl; have y1 := (blk_cell BKb3.out 1).trans rfl; have iz0 := (blk_cell BKc3.out 0).trans rfl; have iz1 := (blk_cell BKc3.out 1).trans rfl; have fx0 := blk_frozen BKa3.out 0; have fx1 := blk_frozen BKa3.out 1; have fy0 := blk_frozen BKb3.out 0; have fy1 := blk_frozen BKb3.out 1; have hn12 := HN12.out; have hn21 := Ne.symm HN12.out; clear hbox_ hb_ hg_)
   | ((with_reducible refine gate_store (t := 30) (p := 3) rfl ?_); refine store_event (t := 30) (p := 3) (v := ?vos1_CTrue) (w1 := ((w3.setCell ⟨g1, 0, none⟩ (.int .i64 c)).setCell ⟨g1, 1, none⟩ (.int .i64 d))) ?hgs1_CTrue ?hos1_CTrue ?hns1_CTrue ?hrs1_CTrue ?_; (case hos1_CTrue => rfl); (case hgs1_CTrue => rfl); (case hns1_CTrue => rfl); (case hrs1_CTrue => first | (go_simp; done) | (go_simp; rfl)); intro w4 hw; have BKa4 := Aside0.mk (show w4.heap[g1]? = some (.cells #[.int .i64 c, .int .i64 d] 30 (0, 0)) from by (rw [hw]; exact (poly_two_set BKa3.out).1)); have BKb4 := Aside0.mk (show w4.heap[g2]? = some (.cells #[.int .i64 c, .int .i64 d] 30 (0, 0)) from by (rw [hw]; exact ((poly_two_set BKa3.out).2 _ hn21).trans BKb3.out)); have BKc4 := Aside0.mk (show w4.heap[g3]? = some (.cells #[.int .i64 e, .int .i64 f] 30 (0, 0)) from by (rw [hw]; exact ((poly_two_set BKa3.out).2 _ (Ne.symm HN13.out)).trans BKc3.out)); have HB4 := Aside0.mk (show Below w.heap.size w w4 from by (rw [hw]; exact below_set (below_set HB3.out HG1.out) HG1.out)); clear hw x0 x1 y0 y1 iz0 iz1 fx0 fx1 fy0 fy1; have y0 := (blk_cell BKb4.out 0).trans rfl; have y1 := (blk_cell BKb4.out 1).trans rfl; have fy0 := blk_frozen BKb4.out 0; have fy1 := blk_frozen BKb4.out 1)
   | ((with_reducible refine gate_store (t := 30) (p := 4) rfl ?_); refine store_event (t := 30) (p := 4) (v := ?vos2_CTrue) (w1 := ((w4.setCell ⟨g2, 0, none⟩ (.int .i64 a)).setCell ⟨g2, 1, none⟩ (.int .i64 b))) ?hgs2_CTrue ?hos2_CTrue ?hns2_CTrue ?hrs2_CTrue ?_; (case hos2_CTrue => rfl); (case hgs2_CTrue => rfl); (case hns2_CTrue => rfl); (case hrs2_CTrue => first | (go_simp; done) | (go_simp; rfl)); intro w5 hw; have BKa5 := Aside0.mk (show w5.heap[g1]? = some (.cells #[.int .i64 c, .int .i64 d] 30 (0, 0)) from by (rw [hw]; exact ((poly_two_set BKb4.out).2 _ hn12).trans BKa4.out)); have BKb5 := Aside0.mk (show w5.heap[g2]? = some (.cells #[.int .i64 a, .int .i64 b] 30 (0, 0)) from by (rw [hw]; exact (poly_two_set BKb4.out).1)); have BKc5 := Aside0.mk (show w5.heap[g3]? = some (.cells #[.int .i64 e, .int .i64 f] 30 (0, 0)) from by (rw [hw]; exact ((poly_two_set BKb4.out).2 _ (Ne.symm HN23.out)).trans BKc4.out)); have HB5 := Aside0.mk (show Below w.heap.size w w5 from by (rw [hw]; exact below_set (below_set HB4.out HG2.out) HG2.out)); clear hw y0 y1 fy0 fy1; have x0 := (blk_cell BKa5.out 0).trans rfl; have x1 := (blk_cell BKa5.out 1).trans rfl; have y0 := (blk_cell BKb5.out 0).trans rfl; have y1 := (blk_cell BKb5.out 1).trans rfl; have iz0 := (blk_cell BKc5.out 0).trans rfl; have iz1 := (blk_cell BKc5.out 1).trans rfl))
  go_ret
  exact ⟨by first | rfl | (simp; done) | (simp [*]; done), HB5.out⟩
theorem poly_crosses (k : Nat) (a b c d e f : Int) (r : Bool) (w : World) (h : crossOf k ⟨a, b⟩ ⟨c, d⟩ ⟨e, f⟩ = some r) :
  Calls Try.prog 40 #[.agg #[.int .i64 a, .int .i64 b], .agg #[.int .i64 c, .int .i64 d], .agg #[.int .i64 e, .int .i64 f]] w fun e w' => e = .returned (.bool r) ∧ Below w.heap.size w w' := by
 unfold crossOf at h
 by_cases c0 : b > d
 ·rw [if_pos c0] at h
  exact poly_crosses_down k a b c d e f r w c0 h
 ·rw [if_neg c0] at h
  exact poly_crosses_up k a b c d e f r w (by omega) h
theorem poly_tne {w : World} {g g' t t' : Nat} {cs cs' : Array Value} (h : w.heap[g]? = some (.cells cs t (0, 0))) (h' : w.heap[g']? = some (.cells cs' t' (0, 0))) (hne : t ≠ t') : g ≠ g' := blk_ne h h' hne
/-- The three boxes that Where's closure holds. -/
structure WBox (w0 w : World) (gp go gi : Nat) (px py : Int) (on ins : Bool) : Prop where
 cp : w.heap[gp]? = some (.cells #[.int .i64 px, .int .i64 py] 30 (0, 0))
 co : w.heap[go]? = some (.cells #[.bool on] 4 (0, 0))
 ci : w.heap[gi]? = some (.cells #[.bool ins] 4 (0, 0))
 ne : go ≠ gi
 bo : w0.heap.size ≤ go
 bi : w0.heap.size ≤ gi
 B : Below w0.heap.size w0 w
section
variable {w0 w w' : World} {gp go gi : Nat} {px py : Int} {on ins : Bool}
theorem WBox.step (h : WBox w0 w gp go gi px py on ins) (hb : Below w.heap.size w w') : WBox w0 w' gp go gi px py on ins :=
 ⟨blk_below h.cp hb, blk_below h.co hb, blk_below h.ci hb, h.ne, h.bo, h.bi, below_step h.B hb⟩
theorem WBox.nep (h : WBox w0 w gp go gi px py on ins) : gp ≠ go ∧ gp ≠ gi := by
 constructor
 ·rintro rfl
  have := h.co
  rw [h.cp] at this
  injection this with this
  injection this with _ this
  exact absurd this (by decide)
 ·rintro rfl
  have := h.ci
  rw [h.cp] at this
  injection this with this
  injection this with _ this
  exact absurd this (by decide)
theorem WBox.setOn (h : WBox w0 w gp go gi px py on ins) (b : Bool) : WBox w0 (w.setCell ⟨go, 0, none⟩ (.bool b)) gp go gi px py b ins :=
 ⟨(Below.heap_setCell w ⟨go, 0, none⟩ _ gp h.nep.1).trans h.cp, blk_set h.co 0 _, (Below.heap_setCell w ⟨go, 0, none⟩ _ gi (Ne.symm h.ne)).trans h.ci, h.ne, h.bo, h.bi, below_set h.B h.bo⟩
theorem WBox.setIn (h : WBox w0 w gp go gi px py on ins) (b : Bool) : WBox w0 (w.setCell ⟨gi, 0, none⟩ (.bool b)) gp go gi px py on b :=
 ⟨(Below.heap_setCell w ⟨gi, 0, none⟩ _ gp h.nep.2).trans h.cp, (Below.heap_setCell w ⟨gi, 0, none⟩ _ go h.ne).trans h.co, blk_set h.ci 0 _, h.ne, h.bo, h.bi, below_set h.B h.bi⟩
end
set_option maxHeartbeats 8000000 in
set_option maxRecDepth 100000 in
theorem poly_where1 (k : Nat) (a b c d px py : Int) (on0 ins on cr : Bool) (gp go gi : Nat) (w0 w : World) (hW : WBox w0 w gp go gi px py on0 ins) (hon : seg_On.f k px py a b c d = some on) (hcr : crossOf k ⟨a, b⟩ ⟨c, d⟩ ⟨px, py⟩ = some cr) :
  Calls Try.prog 38 #[.agg #[.int .i64 a, .int .i64 b], .agg #[.int .i64 c, .int .i64 d], .pointer (some ⟨gp, 0, none⟩), .pointer (some ⟨go, 0, none⟩), .pointer (some ⟨gi, 0, none⟩)] w fun e w' => e = .returned (.bool (!on)) ∧ WBox w0 w' gp go gi px py on (ins != cr) := by
 have HOn := Aside0.mk (fun w2 => seg_On.calls k px py a b c d on w2 hon)
 have HCr := Aside0.mk (fun w2 => poly_crosses k a b c d px py cr w2 hcr)
 have HW := Aside0.mk hW
 clear hon hcr hW
 go_enter Try.func38, Try.ntmps38
 go_wp2_with (first
  | ((with_reducible refine gate_dst (N := 5) rfl ?_); refine box_event ?hgg1 (N := 5) ?hdg1 (cs := #[.int .i64 a, .int .i64 b]) (t := 30) ?hrg1 ?_; (case hdg1 => rfl); (case hgg1 => rfl); (case hrg1 => first | (go_simp; done) | (go_simp; rfl)); intro g1 hg_ w1 hbox_ hb_; have HW1 := Aside0.mk (HW.out.step hb_); have BK1 := Aside0.mk hbox_; clear hbox_ hb_ hg_)
  | ((with_reducible refine gate_dst (N := 6) rfl ?_); refine box_event ?hgg2 (N := 6) ?hdg2 (cs := #[.int .i64 c, .int .i64 d]) (t := 30) ?hrg2 ?_; (case hdg2 => rfl); (case hgg2 => rfl); (case hrg2 => first | (go_simp; done) | (go_simp; rfl)); intro g2 hg_ w2 hbox_ hb_; have HW2 := Aside0.mk (HW1.out.step hb_); have BK1b := Aside0.mk (blk_below BK1.out hb_); have BK2 := Aside0.mk hbox_; have x0 := (blk_cell BK1b.out 0).trans rfl; have x1 := (blk_cell BK1b.out 1).trans rfl; have y0 := (blk_cell BK2.out 0).trans rfl; have y1 := (blk_cell BK2.out 1).trans rfl; have iz0 := (blk_cell HW2.out.cp 0).trans rfl; have iz1 := (blk_cell HW2.out.cp 1).trans rfl; clear hbox_ hb_ hg_)
  | (go_at_call 39; refine (HOn.out _).mono ?_; rintro e w3 ⟨rfl, hb⟩; have HW3 := Aside0.mk (HW2.out.step hb); have BK1c := Aside0.mk (blk_below BK1b.out hb); have BK2c := Aside0.mk (blk_below BK2.out hb); clear hb x0 x1 y0 y1 iz0 iz1; have o0 := (blk_cell HW3.out.co 0).trans rfl; have of0 := blk_frozen HW3.out.co 0)
  | ((with_reducible refine gate_store (t := 4) (p := 3) rfl ?_); refine store_event (t := 4) (p := 3) (v := ?vow38) (w1 := (w3.setCell ⟨go, 0, none⟩ (.bool on))) ?hgw38 ?how38 ?hnw38 ?hrw38 ?_; (case how38 => rfl); (case hgw38 => rfl); (case hnw38 => rfl); (case hrw38 => first | (go_simp; done) | (go_simp; rfl)); intro w4 hw; have HW4 := Aside0.mk (show WBox w0 w4 gp go gi px py on ins from by (rw [hw]; exact HW3.out.setOn on)); have BK1d := Aside0.mk (show w4.heap[g1]? = some (.cells #[.int .i64 a, .int .i64 b] 30 (0, 0)) from by (rw [hw]; exact (Below.heap_setCell _ _ _ _ (poly_tne BK1c.out HW3.out.co (by decide))).trans BK1c.out)); have BK2d := Aside0.mk (show w4.heap[g2]? = some (.cells #[.int .i64 c, .int .i64 d] 30 (0, 0)) from by (rw [hw]; exact (Below.heap_setCell _ _ _ _ (poly_tne BK2c.out HW3.out.co (by decide))).trans BK2c.out)); clear hw o0 of0))
 have n1_ := Aside0.mk (HW4.out.step (below_drew (Below.refl _ _)))
 have n2_ := Aside0.mk (blk_drew BK1d.out)
 have n3_ := Aside0.mk (blk_drew BK2d.out)
 clear HW4 BK1d BK2d
 have HW4 := n1_; have BK1 := n2_; have BK2 := n3_
 clear n1_ n2_ n3_
 refine start_ (n := 7) (S := fun w' => Below w4.drew.heap.size w4.drew w') (ds := [6]) #[F, F, F, F, F, F, F] (by kernel_rfl) rfl rfl (Below.refl _ _) (fun hHeld => ?_)
 generalize w4.drew = wq at HW4 BK1 BK2 hHeld ⊢
 refine take_ (i := 0) (N := some 12) (v := ?_) (a' := ?_) #[T, F, F, F, F, F, F] rfl rfl (by kernel_rfl) (fun _ _ _ h => h) (Or.inl ⟨by rfl, ?_⟩) hHeld ?_ ?_
 rotate_left
 ·rintro w' hS
  have y0 := (blk_cell (blk_below HW4.out.ci hS) 0).trans rfl
  go_simp
  with_reducible rfl
 rotate_left
 ·simp only [Act.put, List.setIfInBounds_toArray, List.set_cons_zero, List.set_cons_succ, i64_w, i32_w]
  rfl
 refine take_ (i := 1) (N := some 13) (v := ?_) (a' := ?_) #[T, T, F, F, F, F, F] rfl rfl (by kernel_rfl) (fun _ _ _ h => h) (Or.inl ⟨by rfl, ?_⟩) hHeld ?_ ?_
 rotate_left
 ·rintro w' hS
  have y0 := (blk_cell (blk_below BK1.out hS) 0).trans rfl; have y1 := (blk_cell (blk_below BK1.out hS) 1).trans rfl
  go_simp
  with_reducible rfl
 rotate_left
 ·simp only [Act.put, List.setIfInBounds_toArray, List.set_cons_zero, List.set_cons_succ, i64_w, i32_w]
  rfl
 refine take_ (i := 2) (N := some 14) (v := ?_) (a' := ?_) #[T, T, T, F, F, F, F] rfl rfl (by kernel_rfl) (fun _ _ _ h => h) (Or.inl ⟨by rfl, ?_⟩) hHeld ?_ ?_
 rotate_left
 ·rintro w' hS
  have y0 := (blk_cell (blk_below BK2.out hS) 0).trans rfl; have y1 := (blk_cell (blk_below BK2.out hS) 1).trans rfl
  go_simp
  with_reducible rfl
 rotate_left
 ·simp only [Act.put, List.setIfInBounds_toArray, List.set_cons_zero, List.set_cons_succ, i64_w, i32_w]
  rfl
 refine take_ (i := 3) (N := some 15) (v := ?_) (a' := ?_) #[T, T, T, T, F, F, F] rfl rfl (by kernel_rfl) (fun _ _ _ h => h) (Or.inl ⟨by rfl, ?_⟩) hHeld ?_ ?_
 rotate_left
 ·rintro w' hS
  have y0 := (blk_cell (blk_below HW4.out.cp hS) 0).trans rfl; have y1 := (blk_cell (blk_below HW4.out.cp hS) 1).trans rfl
  go_simp
  with_reducible rfl
 rotate_left
 ·simp only [Act.put, List.setIfInBounds_toArray, List.set_cons_zero, List.set_cons_succ, i64_w, i32_w]
  rfl
 refine one_ (i := 4) (N := some 16) #[T, T, T, T, T, F, F] rfl rfl (by kernel_rfl) (by decide) (fun K hK => ?_)
 refine call_ 40 #[.agg #[.int .i64 a, .int .i64 b], .agg #[.int .i64 c, .int .i64 d], .agg #[.int .i64 px, .int .i64 py]] rfl rfl ?hrunC ?_
 case hrunC => first | rfl | (go_simp; done) | (go_simp; rfl)
 refine (HCr.out _).mono ?_
 rintro e wa ⟨rfl, hS⟩
 refine ⟨_, rfl, ?_⟩
 have HW5 := Aside0.mk (HW4.out.step hS)
 clear hHeld
 refine hK.out _ _ hS (fun hHeld => ?_)
 clear hK K
 refine norm_ (a' := ?_) ?_ ?_
 rotate_left
 ·show Act.put _ (some 16) _ = _
  simp only [Act.put, List.setIfInBounds_toArray, List.set_cons_zero, List.set_cons_succ, i64_w, i32_w]
  rfl
 refine pure_ (i := 5) (N := some 17) (v := ?_) (a' := ?_) #[T, T, T, T, T, T, F] rfl rfl (by kernel_rfl) (fun _ _ _ h => h) (Or.inl ⟨by rfl, ?_⟩) ?_ ?_
 rotate_left
 ·intro w'
  go_simp
  with_reducible rfl
 rotate_left
 ·simp only [Act.put, List.setIfInBounds_toArray, List.set_cons_zero, List.set_cons_succ, i64_w, i32_w]
  rfl
 refine last_ (i := 6) (N := none) #[T, T, T, T, T, T, T] rfl rfl (by kernel_rfl) (by decide) (fun K hK => ?_)
 have y0 := (blk_cell HW5.out.ci 0).trans rfl
 have y1 := blk_frozen HW5.out.ci 0
 refine skip_ (w1 := wa.setCell ⟨gi, 0, none⟩ (.bool (ins != cr))) (by rfl) rfl ?_ ?_
 ·first | (go_simp; done) | (go_simp; rfl)
 have HW6 := Aside0.mk (HW5.out.setIn (ins != cr))
 clear y0 y1
 refine hK.out _ _ ?_
 clear hK K
 refine done_ (by kernel_rfl) ?_

 generalize (wa.setCell ⟨gi, 0, none⟩ (.bool (ins != cr))) = w6 at HW6 ⊢
 have o0 := (blk_cell HW6.out.co 0).trans rfl
 go_wp2
 go_ret
 exact ⟨by first | rfl | (simp; done), HW6.out⟩
set_option maxHeartbeats 8000000 in
set_option maxRecDepth 100000 in
theorem poly_visit_where (kk : Nat) (A0 : Option Addr) (c0 : Nat) (l0 : List (S30)) (px py : Int) (gp go gi : Nat) (w0 w : World) (r : Int) (hr0 : Kd.C k30 w0 A0 l0.length l0) (hlen : l0.length ≤ 1000000) (hW : WBox w0 w gp go gi px py false false) (hr : whereFrom kk l0 ⟨px, py⟩ l0.length 0 false = some r) :
  Calls Try.prog 29 #[.slice A0 l0.length c0, .func (.func 38) #[] #[.pointer (some ⟨gp, 0, none⟩), .pointer (some ⟨go, 0, none⟩), .pointer (some ⟨gi, 0, none⟩)]] w fun e w' => e = .returned (.tuple #[]) ∧ ∃ on ins, WBox w0 w' gp go gi px py on ins ∧ r = (if on = true then 1 else if ins = true then 2 else 0) := by
 have HR := Aside0.mk hr0
 have HLen := Aside0.mk hlen
 have HC0 := Aside0.mk hW
 have HRes := Aside0.mk hr
 clear hr0 hlen hW hr
 go_enter Try.func29, Try.ntmps29
 go_wp2
 go_loopg [7] l0.length (fun gk vi wr => ∃ (k : Nat) (ins : Bool), vi = .int .i64 (k : Int) ∧ k + gk = l0.length ∧ whereFrom kk l0 ⟨px, py⟩ (l0.length - k) k ins = some r ∧ WBox w0 wr gp go gi px py false ins)
 case atStart => exact ⟨0, false, rfl, by omega, HRes.out, HC0.out⟩
 case round =>
  clear HC0 HRes
  obtain ⟨k, ins, rfl, hkg, hwf, hwb⟩ := hrel
  have HB := Aside0.mk hwb.B
  have HC := Aside0.mk hwb
  clear hwb
  by_cases c : k < l0.length
  ·skip
   have ik0 : (0 : Int) ≤ (k : Int) := Int.natCast_nonneg _
   have ik1 : (k : Int) < (l0.length : Int) := by omega
   have hn : (l0.length : Int) ≤ 1000000 := by have := HLen.out; omega
   have n0 : 0 ≤ ((k : Int) + 1) % (l0.length : Int) := Int.emod_nonneg _ (by omega)
   have n1 : ((k : Int) + 1) % (l0.length : Int) < (l0.length : Int) := Int.emod_lt_of_pos _ (by omega)
   have HT := Aside0.mk (show Int.tmod ((k : Int) + 1) (l0.length : Int) = ((k : Int) + 1) % (l0.length : Int) from Int.tmod_eq_emod_of_nonneg (by omega))
   have hne : ¬ (l0 = []) := fun e => by rw [e] at c; simp at c
   have HW := Aside0.mk (show wrap64 ((k : Int) + 1) = (k : Int) + 1 from by unfold wrap64; omega)
   obtain ⟨ad, e, hx0, hx1⟩ := at_T30 (Kd.C_below HR.out HB.out) k ik0 ik1
   subst e
   clear hx0 hx1
   have HX := Aside0.mk (fun (w2 : World) (hb : Below w0.heap.size w0 w2) => (by
    obtain ⟨ad2, e2, h1, h2⟩ := at_T30 (Kd.C_below HR.out hb) k ik0 ik1
    injection e2 with e2
    subst e2
    simp only [Int.toNat_natCast] at h1 h2
    exact ⟨h1, h2⟩ : w2.cell? (ad.add (k * 2)) = some (.int .i64 (rd_T30 l0 k).f0) ∧ w2.cell? ⟨(ad.add (k * 2)).block, (ad.add (k * 2)).off + 1, none⟩ = some (.int .i64 (rd_T30 l0 k).f1)))
   have HY := Aside0.mk (fun (w2 : World) (hb : Below w0.heap.size w0 w2) => (by
    obtain ⟨ad2, e2, h1, h2⟩ := at_T30 (Kd.C_below HR.out hb) (((k : Int) + 1) % (l0.length : Int)) n0 n1
    injection e2 with e2
    subst e2
    exact ⟨h1, h2⟩ : w2.cell? (ad.add ((((k : Int) + 1) % (l0.length : Int)).toNat * 2)) = some (.int .i64 (rd_T30 l0 (((k : Int) + 1) % (l0.length : Int))).f0) ∧ w2.cell? ⟨(ad.add ((((k : Int) + 1) % (l0.length : Int)).toNat * 2)).block, (ad.add ((((k : Int) + 1) % (l0.length : Int)).toNat * 2)).off + 1, none⟩ = some (.int .i64 (rd_T30 l0 (((k : Int) + 1) % (l0.length : Int))).f1)))
   rw [show l0.length - k = (l0.length - (k + 1)) + 1 by omega, whereFrom, poly_next] at hwf
   obtain ⟨on, hon, hwf⟩ := Option.bind_eq_some_iff.1 hwf
   obtain ⟨cr, hcr, hwf⟩ := Option.bind_eq_some_iff.1 hwf
   have HOn := Aside0.mk hon
   have HCr := Aside0.mk hcr
   clear hon hcr
   cases on with
   | true =>
    rw [if_pos rfl] at hwf
    have HF := Aside0.mk (Option.some.inj hwf).symm
    clear hwf
    go_wp2_with fail
    have n1_ := Aside0.mk (below_drew1 HB.out)
    have n2_ := Aside0.mk (HC.out.step (below_drew (Below.refl _ _)))
    clear HB HC
    have HB := n1_; have HC := n2_
    clear n1_ n2_
    refine start_ (n := 15) (S := fun w' => Below w0.heap.size w0 w') (ds := []) #[F, F, F, F, F, F, F, F, F, F, F, F, F, F, F] (by kernel_rfl) rfl rfl (HB.out) (fun hHeld => ?_)
    generalize wr.drew = wq at HB HC hHeld ⊢
    refine pure_ (i := 0) (N := some 10) (v := ?_) (a' := ?_) #[T, F, F, F, F, F, F, F, F, F, F, F, F, F, F] rfl rfl (by kernel_rfl) (fun _ _ _ h => h) (Or.inl ⟨by rfl, ?_⟩) ?_ ?_
    rotate_left
    ·intro w'
     go_simp
     with_reducible rfl
    rotate_left
    ·simp only [Act.put, List.setIfInBounds_toArray, List.set_cons_zero, List.set_cons_succ, i64_w, i32_w]
     rfl
    refine pure_ (i := 1) (N := some 11) (v := ?_) (a' := ?_) #[T, T, F, F, F, F, F, F, F, F, F, F, F, F, F] rfl rfl (by kernel_rfl) (fun _ _ _ h => h) (Or.inl ⟨by rfl, ?_⟩) ?_ ?_
    rotate_left
    ·intro w'
     go_simp
     with_reducible rfl
    rotate_left
    ·simp only [Act.put, List.setIfInBounds_toArray, List.set_cons_zero, List.set_cons_succ, i64_w, i32_w]
     rfl
    refine pure_ (i := 2) (N := some 12) (v := ?_) (a' := ?_) #[T, T, T, F, F, F, F, F, F, F, F, F, F, F, F] rfl rfl (by kernel_rfl) (fun _ _ _ h => h) (Or.inl ⟨by rfl, ?_⟩) ?_ ?_
    rotate_left
    ·intro w'
     go_simp
     with_reducible rfl
    rotate_left
    ·simp only [Act.put, List.setIfInBounds_toArray, List.set_cons_zero, List.set_cons_succ, i64_w, i32_w]
     rfl
    refine pure_ (i := 3) (N := some 13) (v := ?_) (a' := ?_) #[T, T, T, T, F, F, F, F, F, F, F, F, F, F, F] rfl rfl (by kernel_rfl) (fun _ _ _ h => h) (Or.inl ⟨by rfl, ?_⟩) ?_ ?_
    rotate_left
    ·intro w'
     go_simp
     with_reducible rfl
    rotate_left
    ·simp only [Act.put, List.setIfInBounds_toArray, List.set_cons_zero, List.set_cons_succ, i64_w, i32_w]
     rfl
    refine take_ (i := 4) (N := some 14) (v := ?_) (a' := ?_) #[T, T, T, T, T, F, F, F, F, F, F, F, F, F, F] rfl rfl (by kernel_rfl) (fun _ _ _ h => h) (Or.inl ⟨by rfl, ?_⟩) hHeld ?_ ?_
    rotate_left
    ·rintro w' hS
     obtain ⟨hx0, hx1⟩ := HX.out w' hS
     go_simp
     with_reducible rfl
    rotate_left
    ·simp only [Act.put, List.setIfInBounds_toArray, List.set_cons_zero, List.set_cons_succ, i64_w, i32_w]
     rfl
    refine pure_ (i := 5) (N := some 15) (v := ?_) (a' := ?_) #[T, T, T, T, T, T, F, F, F, F, F, F, F, F, F] rfl rfl (by kernel_rfl) (fun _ _ _ h => h) (Or.inl ⟨by rfl, ?_⟩) ?_ ?_
    rotate_left
    ·intro w'
     go_simp
     with_reducible rfl
    rotate_left
    ·simp only [Act.put, List.setIfInBounds_toArray, List.set_cons_zero, List.set_cons_succ, i64_w, i32_w]
     rfl
    refine pure_ (i := 6) (N := some 16) (v := ?_) (a' := ?_) #[T, T, T, T, T, T, T, F, F, F, F, F, F, F, F] rfl rfl (by kernel_rfl) (fun _ _ _ h => h) (Or.inl ⟨by rfl, ?_⟩) ?_ ?_
    rotate_left
    ·intro w'
     go_simp
     with_reducible rfl
    rotate_left
    ·simp only [Act.put, List.setIfInBounds_toArray, List.set_cons_zero, List.set_cons_succ, i64_w, i32_w]
     rfl
    refine pure_ (i := 7) (N := some 17) (v := ?_) (a' := ?_) #[T, T, T, T, T, T, T, T, F, F, F, F, F, F, F] rfl rfl (by kernel_rfl) (fun _ _ _ h => h) (Or.inl ⟨by rfl, ?_⟩) ?_ ?_
    rotate_left
    ·intro w'
     go_simp
     with_reducible rfl
    rotate_left
    ·simp only [Act.put, List.setIfInBounds_toArray, List.set_cons_zero, List.set_cons_succ, i64_w, i32_w]
     rfl
    rw [HW.out]
    refine pure_ (i := 8) (N := some 18) (v := ?_) (a' := ?_) #[T, T, T, T, T, T, T, T, T, F, F, F, F, F, F] rfl rfl (by kernel_rfl) (fun _ _ _ h => h) (Or.inl ⟨by rfl, ?_⟩) ?_ ?_
    rotate_left
    ·intro w'
     go_simp
     with_reducible rfl
    rotate_left
    ·simp only [Act.put, List.setIfInBounds_toArray, List.set_cons_zero, List.set_cons_succ, i64_w, i32_w]
     rfl
    refine pure_ (i := 9) (N := some 19) (v := ?_) (a' := ?_) #[T, T, T, T, T, T, T, T, T, T, F, F, F, F, F] rfl rfl (by kernel_rfl) (fun _ _ _ h => h) (Or.inl ⟨by rfl, ?_⟩) ?_ ?_
    rotate_left
    ·intro w'
     go_simp
     with_reducible rfl
    rotate_left
    ·simp only [Act.put, List.setIfInBounds_toArray, List.set_cons_zero, List.set_cons_succ, i64_w, i32_w]
     rfl
    refine pure_ (i := 10) (N := some 20) (v := ?_) (a' := ?_) #[T, T, T, T, T, T, T, T, T, T, T, F, F, F, F] rfl rfl (by kernel_rfl) (fun _ _ _ h => h) (Or.inl ⟨by rfl, ?_⟩) ?_ ?_
    rotate_left
    ·intro w'
     go_simp
     with_reducible rfl
    rotate_left
    ·simp only [Act.put, List.setIfInBounds_toArray, List.set_cons_zero, List.set_cons_succ, i64_w, i32_w]
     rfl
    rw [HT.out]
    refine pure_ (i := 11) (N := some 21) (v := ?_) (a' := ?_) #[T, T, T, T, T, T, T, T, T, T, T, T, F, F, F] rfl rfl (by kernel_rfl) (fun _ _ _ h => h) (Or.inl ⟨by rfl, ?_⟩) ?_ ?_
    rotate_left
    ·intro w'
     go_simp
     with_reducible rfl
    rotate_left
    ·simp only [Act.put, List.setIfInBounds_toArray, List.set_cons_zero, List.set_cons_succ, i64_w, i32_w]
     rfl
    refine take_ (i := 12) (N := some 22) (v := ?_) (a' := ?_) #[T, T, T, T, T, T, T, T, T, T, T, T, T, F, F] rfl rfl (by kernel_rfl) (fun _ _ _ h => h) (Or.inl ⟨by rfl, ?_⟩) hHeld ?_ ?_
    rotate_left
    ·rintro w' hS
     obtain ⟨hy0, hy1⟩ := HY.out w' hS
     go_simp
     with_reducible rfl
    rotate_left
    ·simp only [Act.put, List.setIfInBounds_toArray, List.set_cons_zero, List.set_cons_succ, i64_w, i32_w]
     rfl
    refine one_ (i := 13) (N := some 23) #[T, T, T, T, T, T, T, T, T, T, T, T, T, T, F] rfl rfl (by kernel_rfl) (by decide) (fun K hK => ?_)
    refine call_ 38 #[.agg #[.int .i64 (rd_T30 l0 k).f0, .int .i64 (rd_T30 l0 k).f1], .agg #[.int .i64 (rd_T30 l0 (((k : Int) + 1) % (l0.length : Int))).f0, .int .i64 (rd_T30 l0 (((k : Int) + 1) % (l0.length : Int))).f1], .pointer (some ⟨gp, 0, none⟩), .pointer (some ⟨go, 0, none⟩), .pointer (some ⟨gi, 0, none⟩)] rfl rfl ?hrunS ?_
    case hrunS => first | rfl | (go_simp; done) | (go_simp; rfl)
    refine (poly_where1 kk _ _ _ _ px py false ins true cr gp go gi w0 wq HC.out HOn.out HCr.out).mono ?_
    rintro e wa ⟨rfl, hW⟩
    refine ⟨_, rfl, ?_⟩
    have n1_ := Aside0.mk hW.B
    have n2_ := Aside0.mk hW
    clear hHeld HB HC
    have HB := n1_; have HC := n2_
    clear n1_ n2_
    refine hK.out _ _ HB.out (fun hHeld => ?_)
    clear hW hK K
    refine norm_ (a' := ?_) ?_ ?_
    rotate_left
    ·show Act.put _ (some 23) _ = _
     simp only [Act.put, List.setIfInBounds_toArray, List.set_cons_zero, List.set_cons_succ, i64_w, i32_w]
     rfl
    refine pure_ (i := 14) (N := some 24) (v := ?_) (a' := ?_) #[T, T, T, T, T, T, T, T, T, T, T, T, T, T, T] rfl rfl (by kernel_rfl) (fun _ _ _ h => h) (Or.inl ⟨by rfl, ?_⟩) ?_ ?_
    rotate_left
    ·intro w'
     go_simp
     with_reducible rfl
    rotate_left
    ·simp only [Act.put, List.setIfInBounds_toArray, List.set_cons_zero, List.set_cons_succ, i64_w, i32_w]
     rfl
    refine done_ (by kernel_rfl) ?_
    go_wp2
    refine bodyPost_ret (results_none rfl _ _ _) rfl ?_
    exact ⟨rfl, true, _, HC.out, by rw [HF.out]; rfl⟩
   | false =>
    rw [if_neg (by decide)] at hwf
    have HF := Aside0.mk hwf
    clear hwf
    go_wp2_with fail
    have n1_ := Aside0.mk (below_drew1 HB.out)
    have n2_ := Aside0.mk (HC.out.step (below_drew (Below.refl _ _)))
    clear HB HC
    have HB := n1_; have HC := n2_
    clear n1_ n2_
    refine start_ (n := 15) (S := fun w' => Below w0.heap.size w0 w') (ds := []) #[F, F, F, F, F, F, F, F, F, F, F, F, F, F, F] (by kernel_rfl) rfl rfl (HB.out) (fun hHeld => ?_)
    generalize wr.drew = wq at HB HC hHeld ⊢
    refine pure_ (i := 0) (N := some 10) (v := ?_) (a' := ?_) #[T, F, F, F, F, F, F, F, F, F, F, F, F, F, F] rfl rfl (by kernel_rfl) (fun _ _ _ h => h) (Or.inl ⟨by rfl, ?_⟩) ?_ ?_
    rotate_left
    ·intro w'
     go_simp
     with_reducible rfl
    rotate_left
    ·simp only [Act.put, List.setIfInBounds_toArray, List.set_cons_zero, List.set_cons_succ, i64_w, i32_w]
     rfl
    refine pure_ (i := 1) (N := some 11) (v := ?_) (a' := ?_) #[T, T, F, F, F, F, F, F, F, F, F, F, F, F, F] rfl rfl (by kernel_rfl) (fun _ _ _ h => h) (Or.inl ⟨by rfl, ?_⟩) ?_ ?_
    rotate_left
    ·intro w'
     go_simp
     with_reducible rfl
    rotate_left
    ·simp only [Act.put, List.setIfInBounds_toArray, List.set_cons_zero, List.set_cons_succ, i64_w, i32_w]
     rfl
    refine pure_ (i := 2) (N := some 12) (v := ?_) (a' := ?_) #[T, T, T, F, F, F, F, F, F, F, F, F, F, F, F] rfl rfl (by kernel_rfl) (fun _ _ _ h => h) (Or.inl ⟨by rfl, ?_⟩) ?_ ?_
    rotate_left
    ·intro w'
     go_simp
     with_reducible rfl
    rotate_left
    ·simp only [Act.put, List.setIfInBounds_toArray, List.set_cons_zero, List.set_cons_succ, i64_w, i32_w]
     rfl
    refine pure_ (i := 3) (N := some 13) (v := ?_) (a' := ?_) #[T, T, T, T, F, F, F, F, F, F, F, F, F, F, F] rfl rfl (by kernel_rfl) (fun _ _ _ h => h) (Or.inl ⟨by rfl, ?_⟩) ?_ ?_
    rotate_left
    ·intro w'
     go_simp
     with_reducible rfl
    rotate_left
    ·simp only [Act.put, List.setIfInBounds_toArray, List.set_cons_zero, List.set_cons_succ, i64_w, i32_w]
     rfl
    refine take_ (i := 4) (N := some 14) (v := ?_) (a' := ?_) #[T, T, T, T, T, F, F, F, F, F, F, F, F, F, F] rfl rfl (by kernel_rfl) (fun _ _ _ h => h) (Or.inl ⟨by rfl, ?_⟩) hHeld ?_ ?_
    rotate_left
    ·rintro w' hS
     obtain ⟨hx0, hx1⟩ := HX.out w' hS
     go_simp
     with_reducible rfl
    rotate_left
    ·simp only [Act.put, List.setIfInBounds_toArray, List.set_cons_zero, List.set_cons_succ, i64_w, i32_w]
     rfl
    refine pure_ (i := 5) (N := some 15) (v := ?_) (a' := ?_) #[T, T, T, T, T, T, F, F, F, F, F, F, F, F, F] rfl rfl (by kernel_rfl) (fun _ _ _ h => h) (Or.inl ⟨by rfl, ?_⟩) ?_ ?_
    rotate_left
    ·intro w'
     go_simp
     with_reducible rfl
    rotate_left
    ·simp only [Act.put, List.setIfInBounds_toArray, List.set_cons_zero, List.set_cons_succ, i64_w, i32_w]
     rfl
    refine pure_ (i := 6) (N := some 16) (v := ?_) (a' := ?_) #[T, T, T, T, T, T, T, F, F, F, F, F, F, F, F] rfl rfl (by kernel_rfl) (fun _ _ _ h => h) (Or.inl ⟨by rfl, ?_⟩) ?_ ?_
    rotate_left
    ·intro w'
     go_simp
     with_reducible rfl
    rotate_left
    ·simp only [Act.put, List.setIfInBounds_toArray, List.set_cons_zero, List.set_cons_succ, i64_w, i32_w]
     rfl
    refine pure_ (i := 7) (N := some 17) (v := ?_) (a' := ?_) #[T, T, T, T, T, T, T, T, F, F, F, F, F, F, F] rfl rfl (by kernel_rfl) (fun _ _ _ h => h) (Or.inl ⟨by rfl, ?_⟩) ?_ ?_
    rotate_left
    ·intro w'
     go_simp
     with_reducible rfl
    rotate_left
    ·simp only [Act.put, List.setIfInBounds_toArray, List.set_cons_zero, List.set_cons_succ, i64_w, i32_w]
     rfl
    rw [HW.out]
    refine pure_ (i := 8) (N := some 18) (v := ?_) (a' := ?_) #[T, T, T, T, T, T, T, T, T, F, F, F, F, F, F] rfl rfl (by kernel_rfl) (fun _ _ _ h => h) (Or.inl ⟨by rfl, ?_⟩) ?_ ?_
    rotate_left
    ·intro w'
     go_simp
     with_reducible rfl
    rotate_left
    ·simp only [Act.put, List.setIfInBounds_toArray, List.set_cons_zero, List.set_cons_succ, i64_w, i32_w]
     rfl
    refine pure_ (i := 9) (N := some 19) (v := ?_) (a' := ?_) #[T, T, T, T, T, T, T, T, T, T, F, F, F, F, F] rfl rfl (by kernel_rfl) (fun _ _ _ h => h) (Or.inl ⟨by rfl, ?_⟩) ?_ ?_
    rotate_left
    ·intro w'
     go_simp
     with_reducible rfl
    rotate_left
    ·simp only [Act.put, List.setIfInBounds_toArray, List.set_cons_zero, List.set_cons_succ, i64_w, i32_w]
     rfl
    refine pure_ (i := 10) (N := some 20) (v := ?_) (a' := ?_) #[T, T, T, T, T, T, T, T, T, T, T, F, F, F, F] rfl rfl (by kernel_rfl) (fun _ _ _ h => h) (Or.inl ⟨by rfl, ?_⟩) ?_ ?_
    rotate_left
    ·intro w'
     go_simp
     with_reducible rfl
    rotate_left
    ·simp only [Act.put, List.setIfInBounds_toArray, List.set_cons_zero, List.set_cons_succ, i64_w, i32_w]
     rfl
    rw [HT.out]
    refine pure_ (i := 11) (N := some 21) (v := ?_) (a' := ?_) #[T, T, T, T, T, T, T, T, T, T, T, T, F, F, F] rfl rfl (by kernel_rfl) (fun _ _ _ h => h) (Or.inl ⟨by rfl, ?_⟩) ?_ ?_
    rotate_left
    ·intro w'
     go_simp
     with_reducible rfl
    rotate_left
    ·simp only [Act.put, List.setIfInBounds_toArray, List.set_cons_zero, List.set_cons_succ, i64_w, i32_w]
     rfl
    refine take_ (i := 12) (N := some 22) (v := ?_) (a' := ?_) #[T, T, T, T, T, T, T, T, T, T, T, T, T, F, F] rfl rfl (by kernel_rfl) (fun _ _ _ h => h) (Or.inl ⟨by rfl, ?_⟩) hHeld ?_ ?_
    rotate_left
    ·rintro w' hS
     obtain ⟨hy0, hy1⟩ := HY.out w' hS
     go_simp
     with_reducible rfl
    rotate_left
    ·simp only [Act.put, List.setIfInBounds_toArray, List.set_cons_zero, List.set_cons_succ, i64_w, i32_w]
     rfl
    refine one_ (i := 13) (N := some 23) #[T, T, T, T, T, T, T, T, T, T, T, T, T, T, F] rfl rfl (by kernel_rfl) (by decide) (fun K hK => ?_)
    refine call_ 38 #[.agg #[.int .i64 (rd_T30 l0 k).f0, .int .i64 (rd_T30 l0 k).f1], .agg #[.int .i64 (rd_T30 l0 (((k : Int) + 1) % (l0.length : Int))).f0, .int .i64 (rd_T30 l0 (((k : Int) + 1) % (l0.length : Int))).f1], .pointer (some ⟨gp, 0, none⟩), .pointer (some ⟨go, 0, none⟩), .pointer (some ⟨gi, 0, none⟩)] rfl rfl ?hrunG ?_
    case hrunG => first | rfl | (go_simp; done) | (go_simp; rfl)
    refine (poly_where1 kk _ _ _ _ px py false ins false cr gp go gi w0 wq HC.out HOn.out HCr.out).mono ?_
    rintro e wa ⟨rfl, hW⟩
    refine ⟨_, rfl, ?_⟩
    have n1_ := Aside0.mk hW.B
    have n2_ := Aside0.mk hW
    clear hHeld HB HC
    have HB := n1_; have HC := n2_
    clear n1_ n2_
    refine hK.out _ _ HB.out (fun hHeld => ?_)
    clear hW hK K
    refine norm_ (a' := ?_) ?_ ?_
    rotate_left
    ·show Act.put _ (some 23) _ = _
     simp only [Act.put, List.setIfInBounds_toArray, List.set_cons_zero, List.set_cons_succ, i64_w, i32_w]
     rfl
    refine pure_ (i := 14) (N := some 24) (v := ?_) (a' := ?_) #[T, T, T, T, T, T, T, T, T, T, T, T, T, T, T] rfl rfl (by kernel_rfl) (fun _ _ _ h => h) (Or.inl ⟨by rfl, ?_⟩) ?_ ?_
    rotate_left
    ·intro w'
     go_simp
     with_reducible rfl
    rotate_left
    ·simp only [Act.put, List.setIfInBounds_toArray, List.set_cons_zero, List.set_cons_succ, i64_w, i32_w]
     rfl
    refine done_ (by kernel_rfl) ?_
    go_wp2
    go_roundg (l0.length - (k + 1))
    case measure => omega
    case rel => exact ⟨k + 1, _, by first | rfl | go_num, by omega, HF.out, HC.out⟩
  ·have c' : decide ((k : Int) < (l0.length : Int)) = false := decide_eq_false (by omega)
   have HF := Aside0.mk (show r = (if ins = true then 2 else 0) from by
    rw [show l0.length - k = 0 by omega, whereFrom] at hwf
    exact (Option.some.inj hwf).symm)
   clear hwf
   go_wp2
   go_end0
   exact ⟨rfl, false, ins, HC.out, by rw [HF.out]; rfl⟩
theorem whereFrom_mono (l : List (S30)) (p : S30) : ∀ (d i : Nat) (ins : Bool) (k : Nat), LeO (whereFrom k l p d i ins) (whereFrom (k + 1) l p d i ins)
 | 0, _, _, _ => LeO.refl _
 | d + 1, i, ins, k => by
  unfold whereFrom
  refine LeO.bind (seg_On.mono _ _ _ _ _ _ _) (fun on => LeO.bind ?_ (fun cr => ?_))
  ·unfold crossOf crossUp
   repeat' first
    | exact seg_Turn.mono _ _ _ _ _ _ _
    | exact LeO.refl _
    | refine LeO.ite ?_ ?_
    | refine LeO.bind ?_ (fun _ => ?_)
  ·exact LeO.ite (LeO.refl _) (whereFrom_mono l p d _ _ k)
def poly_Where.f (k : Nat) (l0 : List (S30)) (a1_0 : Int) (a1_1 : Int) : Option (Int) :=
 if (l0.length : Int) < 3 then some 0 else (poly_valid.f l0).bind fun v => if v = true then (if pt_ok ⟨a1_0, a1_1⟩ = true then whereFrom k l0 ⟨a1_0, a1_1⟩ l0.length 0 false else some 0) else some 0
theorem poly_Where.mono : ∀ (l0 : List (S30)) (a1_0 a1_1 : Int) k, LeO (poly_Where.f k l0 a1_0 a1_1) (poly_Where.f (k + 1) l0 a1_0 a1_1) := by
 intro l0 a b k
 unfold poly_Where.f
 exact LeO.ite (LeO.refl _) (LeO.bind (LeO.refl _) (fun _ => LeO.ite (LeO.ite (whereFrom_mono _ _ _ _ _ _) (LeO.refl _)) (LeO.refl _)))
set_option maxHeartbeats 8000000 in
set_option maxRecDepth 100000 in
theorem poly_Where.calls (k : Nat) (A0 : Option Addr) (c0 : Nat) (l0 : List (S30)) (a1_0 : Int) (a1_1 : Int) (r : Int) (w : World) (hr0 : Kd.C k30 w A0 l0.length l0) (hc0 : l0.length ≤ c0) (h : poly_Where.f k l0 a1_0 a1_1 = some r) :
  Calls Try.prog 17 #[.slice A0 l0.length c0, .agg #[.int .i64 a1_0, .int .i64 a1_1]] w fun e w' => e = .returned (.int .i64 r) ∧ Below w.heap.size w w' := by
 unfold poly_Where.f at h
 by_cases c1 : (l0.length : Int) < 3
 ·rw [if_pos c1] at h
  obtain rfl := Option.some.inj h; clear h hr0 hc0
  go_enter Try.func17, Try.ntmps17
  go_wp2_with (first
   | ((with_reducible refine gate_dst (N := 3) rfl ?_); refine box_event ?hggp_a (N := 3) ?hdgp_a (cs := #[.int .i64 a1_0, .int .i64 a1_1]) (t := 30) ?hrgp_a ?_; (case hdgp_a => rfl); (case hggp_a => rfl); (case hrgp_a => first | (go_simp; done) | (go_simp; rfl)); intro gp hg_ w1 hbox_ hb_; have HB1 := Aside0.mk hb_; have BK1 := Aside0.mk hbox_; clear hbox_ hb_ hg_))
  go_ret
  exact ⟨by first | rfl | (simp; done), HB1.out⟩
 rw [if_neg c1] at h; have c1' : decide ((l0.length : Int) < 3) = false := decide_eq_false c1; obtain ⟨v, hv, h⟩ := Option.bind_eq_some_iff.1 h
 have hlen : l0.length ≤ 1000000 := by
  unfold poly_valid.f at hv; split at hv
  ·assumption
  ·cases hv
 have HV := Aside0.mk (fun (w2 : World) (hb : Below w.heap.size w w2) => poly_valid.calls A0 c0 l0 v w2 (Kd.C_below hr0 hb) hc0 hv); clear c1
 cases v with
 | false =>
  rw [if_neg (by decide)] at h; obtain rfl := Option.some.inj h; clear h hv hr0 hc0 hlen
  go_enter Try.func17, Try.ntmps17
  go_wp2_with (first
   | ((with_reducible refine gate_dst (N := 3) rfl ?_); refine box_event ?hggp_b (N := 3) ?hdgp_b (cs := #[.int .i64 a1_0, .int .i64 a1_1]) (t := 30) ?hrgp_b ?_; (case hdgp_b => rfl); (case hggp_b => rfl); (case hrgp_b => first | (go_simp; done) | (go_simp; rfl)); intro gp hg_ w1 hbox_ hb_; have HB1 := Aside0.mk hb_; have BK1 := Aside0.mk hbox_; clear hbox_ hb_ hg_)
   | (go_at_call 28; refine (HV.out _ HB1.out).mono ?_; rintro e w2 ⟨rfl, hb⟩; have HB2 := Aside0.mk (below_step HB1.out hb); have BK2 := Aside0.mk (blk_below BK1.out hb); have e0 := (blk_cell BK2.out 0).trans rfl; have e1 := (blk_cell BK2.out 1).trans rfl; clear hb))
  go_ret
  exact ⟨by first | rfl | (simp; done), HB2.out⟩
 | true =>
  rw [if_pos rfl] at h; have HG := Aside0.mk (fun w2 => grid_Valid.calls a1_0 a1_1 (pt_ok ⟨a1_0, a1_1⟩) w2 (pt_ok_grid ⟨a1_0, a1_1⟩))
  cases hp : pt_ok ⟨a1_0, a1_1⟩ with
  | false =>
   rw [hp, if_neg (by decide)] at h; rw [hp] at HG; obtain rfl := Option.some.inj h; clear h hv hr0 hc0 hlen hp
   go_enter Try.func17, Try.ntmps17
   go_wp2_with (first
    | ((with_reducible refine gate_dst (N := 3) rfl ?_); refine box_event ?hggp_c (N := 3) ?hdgp_c (cs := #[.int .i64 a1_0, .int .i64 a1_1]) (t := 30) ?hrgp_c ?_; (case hdgp_c => rfl); (case hggp_c => rfl); (case hrgp_c => first | (go_simp; done) | (go_simp; rfl)); intro gp hg_ w1 hbox_ hb_; have HB1 := Aside0.mk hb_; have BK1 := Aside0.mk hbox_; clear hbox_ hb_ hg_)
    | (go_at_call 28; refine (HV.out _ HB1.out).mono ?_; rintro e w2 ⟨rfl, hb⟩; have HB2 := Aside0.mk (below_step HB1.out hb); have BK2 := Aside0.mk (blk_below BK1.out hb); have e0 := (blk_cell BK2.out 0).trans rfl; have e1 := (blk_cell BK2.out 1).trans rfl; clear hb)
    | (go_at_call 37; refine (HG.out _).mono ?_; rintro e w3 ⟨rfl, hb⟩; have HB3 := Aside0.mk (below_step HB2.out hb); have BK3 := Aside0.mk (blk_below BK2.out hb); clear hb e0 e1))
   go_ret
   exact ⟨by first | rfl | (simp; done), HB3.out⟩
  | true =>
   rw [hp, if_pos rfl] at h; rw [hp] at HG; have HVis := Aside0.mk (fun gp go gi w2 hw => poly_visit_where k A0 c0 l0 a1_0 a1_1 gp go gi w w2 r hr0 hlen hw h); clear h hv hr0 hc0 hlen hp; have hmf : ∀ (fn : Fn) (first cap : Array Value) (w : World), (Instr.makeFunc fn first cap).run Try.prog w = .ok (.func fn first cap) w := fun _ _ _ _ => rfl
   go_enter Try.func17, Try.ntmps17
   go_wp2_with (first
    | ((with_reducible refine gate_dst (N := 3) rfl ?_); refine box_event ?hggp_d (N := 3) ?hdgp_d (cs := #[.int .i64 a1_0, .int .i64 a1_1]) (t := 30) ?hrgp_d ?_; (case hdgp_d => rfl); (case hggp_d => rfl); (case hrgp_d => first | (go_simp; done) | (go_simp; rfl)); intro gp hg_ w1 hbox_ hb_; have HB1 := Aside0.mk hb_; have BK1 := Aside0.mk hbox_; clear hbox_ hb_ hg_)
    | (go_at_call 28; refine (HV.out _ HB1.out).mono ?_; rintro e w2 ⟨rfl, hb⟩; have HB2 := Aside0.mk (below_step HB1.out hb); have BK2 := Aside0.mk (blk_below BK1.out hb); have e0 := (blk_cell BK2.out 0).trans rfl; have e1 := (blk_cell BK2.out 1).trans rfl; clear hb)
    | (go_at_call 37; refine (HG.out _).mono ?_; rintro e w3 ⟨rfl, hb⟩; have HB3 := Aside0.mk (below_step HB2.out hb); have BK3 := Aside0.mk (blk_below BK2.out hb); clear hb e0 e1)
    | ((with_reducible refine gate_dst (N := 5) rfl ?_); refine box_event ?hggo_d (N := 5) ?hdgo_d (cs := #[.bool false]) (t := 4) ?hrgo_d ?_; (case hdgo_d => rfl); (case hggo_d => rfl); (case hrgo_d => first | (go_simp; done) | (go_simp; rfl)); intro go hg_ w4 hbox_ hb_; have HB4 := Aside0.mk (below_step HB3.out hb_); have BKp4 := Aside0.mk (blk_below BK3.out hb_); have BKo4 := Aside0.mk hbox_; have HGo := Aside0.mk (show w.heap.size ≤ go from by rw [hg_]; exact HB3.out.size); clear hbox_ hb_ hg_)
    | ((with_reducible refine gate_dst (N := 6) rfl ?_); refine box_event ?hggi_d (N := 6) ?hdgi_d (cs := #[.bool false]) (t := 4) ?hrgi_d ?_; (case hdgi_d => rfl); (case hggi_d => rfl); (case hrgi_d => first | (go_simp; done) | (go_simp; rfl)); intro gi hg_ w5 hbox_ hb_; have HB5 := Aside0.mk (below_step HB4.out hb_); have BKp5 := Aside0.mk (blk_below BKp4.out hb_); have BKo5 := Aside0.mk (blk_below BKo4.out hb_); have BKi5 := Aside0.mk hbox_; have HNoi := Aside0.mk (show go ≠ gi from by rw [hg_]; exact Nat.ne_of_lt (blk_lt BKo4.out)); have HGi := Aside0.mk (show w.heap.size ≤ gi from by rw [hg_]; exact HB4.out.size); have HW5 := Aside0.mk (show WBox w w5 gp go gi a1_0 a1_1 false false from ⟨BKp5.out, BKo5.out, BKi5.out, HNoi.out, HGo.out, HGi.out, HB5.out⟩); have o0 := (blk_cell BKo5.out 0).trans rfl; have of0 := blk_frozen BKo5.out 0; clear hbox_ hb_ hg_)
    | ((with_reducible refine gate_store (t := 4) (p := 5) rfl ?_); refine store_event (t := 4) (p := 5) (v := ?voo5_d) (w1 := (w5.setCell ⟨go, 0, none⟩ (.bool false))) ?hgo5_d ?hoo5_d ?hno5_d ?hro5_d ?_; (case hoo5_d => rfl); (case hgo5_d => rfl); (case hno5_d => rfl); (case hro5_d => first | (go_simp; done) | (go_simp; rfl)); intro w6 hw; have HW6 := Aside0.mk (show WBox w w6 gp go gi a1_0 a1_1 false false from by (rw [hw]; exact HW5.out.setOn false)); clear hw o0 of0; have o0 := (blk_cell HW6.out.ci 0).trans rfl; have of0 := blk_frozen HW6.out.ci 0)
    | ((with_reducible refine gate_store (t := 4) (p := 6) rfl ?_); refine store_event (t := 4) (p := 6) (v := ?voi6_d) (w1 := (w6.setCell ⟨gi, 0, none⟩ (.bool false))) ?hgi6_d ?hoi6_d ?hni6_d ?hri6_d ?_; (case hoi6_d => rfl); (case hgi6_d => rfl); (case hni6_d => rfl); (case hri6_d => first | (go_simp; done) | (go_simp; rfl)); intro w7 hw; have HW7 := Aside0.mk (show WBox w w7 gp go gi a1_0 a1_1 false false from by (rw [hw]; exact HW6.out.setIn false)); clear hw o0 of0)
    | (go_at_call 29; refine (HVis.out gp go gi _ HW7.out).mono ?_; rintro e w8 ⟨rfl, on, ins, hW, hr⟩; have HW8 := Aside0.mk hW; have HRv := Aside0.mk hr; clear hW hr; have o0 := (blk_cell HW8.out.co 0).trans rfl; have o1 := (blk_cell HW8.out.ci 0).trans rfl))
   all_goals
    go_ret
    exact ⟨by rw [HRv.out]; first | rfl | (simp [*]; done), HW8.out.B⟩

end Go.Proofs.Ytggafoldccikdaa.PAll
