-- Written by a program of this session (wip/tools), over the words that print.sh lays. (slim)
import Derived.Test.YtfmanlgfinlekaaPAllx0
namespace Go.Proofs.Ytfmanlgfinlekaa.PAll
open Go.RowKit Go.Proofs.YtfmanlgfinlekaaW.PrintWords Go.Proofs.YtfmanlgfinlekaaW.PrintLast Go.Proofs.YtfmanlgfinlekaaW.PrintMore
attribute [local go_sem] max2_int min2_int max_two min_two max_three min_three max_four min_four   -- for this text's walks alone
set_option linter.unusedVariables false
set_option linter.unusedSimpArgs false
attribute [local irreducible] Calls

/-! ### words_Expand: function 14 -/
def words_Expand.f (a0 : ByteArray) : Option ByteArray := if ([115, 116] : List UInt8) = a0.toList then some (⟨#[115, 116, 114, 101, 101, 116]⟩ : ByteArray) else if ([114, 100] : List UInt8) = a0.toList then some (⟨#[114, 111, 97, 100]⟩ : ByteArray) else if ([97, 118, 101] : List UInt8) = a0.toList then some (⟨#[97, 118, 101, 110, 117, 101]⟩ : ByteArray) else if ([115, 113] : List UInt8) = a0.toList then some (⟨#[115, 113, 117, 97, 114, 101]⟩ : ByteArray) else if ([110] : List UInt8) = a0.toList then some (⟨#[110, 111, 114, 116, 104]⟩ : ByteArray) else if ([115] : List UInt8) = a0.toList then some (⟨#[115, 111, 117, 116, 104]⟩ : ByteArray) else if ([101] : List UInt8) = a0.toList then some (⟨#[101, 97, 115, 116]⟩ : ByteArray) else if ([119] : List UInt8) = a0.toList then some (⟨#[119, 101, 115, 116]⟩ : ByteArray) else if ([115, 116, 101] : List UInt8) = a0.toList then some (⟨#[115, 97, 105, 110, 116]⟩ : ByteArray) else some a0
theorem words_Expand.at0 (w : World) : (Instr.index 33 (Value.agg #[.string ⟨#[115, 116]⟩, .string ⟨#[114, 100]⟩, .string ⟨#[97, 118, 101]⟩, .string ⟨#[115, 113]⟩, .string ⟨#[110]⟩, .string ⟨#[115]⟩, .string ⟨#[101]⟩, .string ⟨#[119]⟩, .string ⟨#[115, 116, 101]⟩]) (.int .i64 0)).run Try.prog w = .ok (.string ⟨#[115, 116]⟩) w := by kernel_rfl
theorem words_Expand.at1 (w : World) : (Instr.index 33 (Value.agg #[.string ⟨#[115, 116]⟩, .string ⟨#[114, 100]⟩, .string ⟨#[97, 118, 101]⟩, .string ⟨#[115, 113]⟩, .string ⟨#[110]⟩, .string ⟨#[115]⟩, .string ⟨#[101]⟩, .string ⟨#[119]⟩, .string ⟨#[115, 116, 101]⟩]) (.int .i64 1)).run Try.prog w = .ok (.string ⟨#[114, 100]⟩) w := by kernel_rfl
theorem words_Expand.at2 (w : World) : (Instr.index 33 (Value.agg #[.string ⟨#[115, 116]⟩, .string ⟨#[114, 100]⟩, .string ⟨#[97, 118, 101]⟩, .string ⟨#[115, 113]⟩, .string ⟨#[110]⟩, .string ⟨#[115]⟩, .string ⟨#[101]⟩, .string ⟨#[119]⟩, .string ⟨#[115, 116, 101]⟩]) (.int .i64 2)).run Try.prog w = .ok (.string ⟨#[97, 118, 101]⟩) w := by kernel_rfl
theorem words_Expand.at3 (w : World) : (Instr.index 33 (Value.agg #[.string ⟨#[115, 116]⟩, .string ⟨#[114, 100]⟩, .string ⟨#[97, 118, 101]⟩, .string ⟨#[115, 113]⟩, .string ⟨#[110]⟩, .string ⟨#[115]⟩, .string ⟨#[101]⟩, .string ⟨#[119]⟩, .string ⟨#[115, 116, 101]⟩]) (.int .i64 3)).run Try.prog w = .ok (.string ⟨#[115, 113]⟩) w := by kernel_rfl
theorem words_Expand.at4 (w : World) : (Instr.index 33 (Value.agg #[.string ⟨#[115, 116]⟩, .string ⟨#[114, 100]⟩, .string ⟨#[97, 118, 101]⟩, .string ⟨#[115, 113]⟩, .string ⟨#[110]⟩, .string ⟨#[115]⟩, .string ⟨#[101]⟩, .string ⟨#[119]⟩, .string ⟨#[115, 116, 101]⟩]) (.int .i64 4)).run Try.prog w = .ok (.string ⟨#[110]⟩) w := by kernel_rfl
theorem words_Expand.at5 (w : World) : (Instr.index 33 (Value.agg #[.string ⟨#[115, 116]⟩, .string ⟨#[114, 100]⟩, .string ⟨#[97, 118, 101]⟩, .string ⟨#[115, 113]⟩, .string ⟨#[110]⟩, .string ⟨#[115]⟩, .string ⟨#[101]⟩, .string ⟨#[119]⟩, .string ⟨#[115, 116, 101]⟩]) (.int .i64 5)).run Try.prog w = .ok (.string ⟨#[115]⟩) w := by kernel_rfl
theorem words_Expand.at6 (w : World) : (Instr.index 33 (Value.agg #[.string ⟨#[115, 116]⟩, .string ⟨#[114, 100]⟩, .string ⟨#[97, 118, 101]⟩, .string ⟨#[115, 113]⟩, .string ⟨#[110]⟩, .string ⟨#[115]⟩, .string ⟨#[101]⟩, .string ⟨#[119]⟩, .string ⟨#[115, 116, 101]⟩]) (.int .i64 6)).run Try.prog w = .ok (.string ⟨#[101]⟩) w := by kernel_rfl
theorem words_Expand.at7 (w : World) : (Instr.index 33 (Value.agg #[.string ⟨#[115, 116]⟩, .string ⟨#[114, 100]⟩, .string ⟨#[97, 118, 101]⟩, .string ⟨#[115, 113]⟩, .string ⟨#[110]⟩, .string ⟨#[115]⟩, .string ⟨#[101]⟩, .string ⟨#[119]⟩, .string ⟨#[115, 116, 101]⟩]) (.int .i64 7)).run Try.prog w = .ok (.string ⟨#[119]⟩) w := by kernel_rfl
theorem words_Expand.at8 (w : World) : (Instr.index 33 (Value.agg #[.string ⟨#[115, 116]⟩, .string ⟨#[114, 100]⟩, .string ⟨#[97, 118, 101]⟩, .string ⟨#[115, 113]⟩, .string ⟨#[110]⟩, .string ⟨#[115]⟩, .string ⟨#[101]⟩, .string ⟨#[119]⟩, .string ⟨#[115, 116, 101]⟩]) (.int .i64 8)).run Try.prog w = .ok (.string ⟨#[115, 116, 101]⟩) w := by kernel_rfl
set_option maxHeartbeats 8000000 in
set_option maxRecDepth 100000 in
theorem words_Expand.calls (a0 : ByteArray) (r : ByteArray) (w : World) (h : words_Expand.f a0 = some r) :
  Calls Try.prog 14 #[.string a0] w fun e w' => e = .returned (.string r) ∧ Below w.heap.size w w' := by
 unfold words_Expand.f at h
 have hu33 := Try.underlying33
 have hu9 := Try.underlying9
 have hx0 := words_Expand.at0
 have hx1 := words_Expand.at1
 have hx2 := words_Expand.at2
 have hx3 := words_Expand.at3
 have hx4 := words_Expand.at4
 have hx5 := words_Expand.at5
 have hx6 := words_Expand.at6
 have hx7 := words_Expand.at7
 have hx8 := words_Expand.at8
 have HB := Aside0.mk (Below.refl w.heap.size w)
 have HH := Aside0.mk h
 clear h
 go_enter Try.func14, Try.ntmps14
 go_upto_region 2 with (first
  | ((with_reducible refine gate_dst (N := 3) rfl ?_); refine box_event ?hg (N := 3) ?hd (cs := #[.string ⟨#[]⟩, .string ⟨#[]⟩, .string ⟨#[]⟩, .string ⟨#[]⟩, .string ⟨#[]⟩, .string ⟨#[]⟩, .string ⟨#[]⟩, .string ⟨#[]⟩, .string ⟨#[]⟩]) (t := 33) ?hr ?_; (case hd => rfl); (case hg => rfl); (case hr => first | (go_simp; done) | (go_simp; rfl)); intro g1 hg w1 hbox hb; have n0_ := Aside0.mk (below_step HB.out hb); have BKg1 := Aside0.mk hbox; have GEg1 := Aside0.mk ((by rw [hg]; exact (below_size HB.out)) : w.heap.size ≤ g1); clear HB; have HB := n0_; clear n0_ hb hbox hg; have hcz0 : w1.cell? ⟨g1, 0, none⟩ = some (.string ⟨#[]⟩) := (blk_cell BKg1.out 0).trans rfl; have hfz0 := blk_frozen BKg1.out 0; have hcz1 : w1.cell? ⟨g1, 1, none⟩ = some (.string ⟨#[]⟩) := (blk_cell BKg1.out 1).trans rfl; have hfz1 := blk_frozen BKg1.out 1; have hcz2 : w1.cell? ⟨g1, 2, none⟩ = some (.string ⟨#[]⟩) := (blk_cell BKg1.out 2).trans rfl; have hfz2 := blk_frozen BKg1.out 2; have hcz3 : w1.cell? ⟨g1, 3, none⟩ = some (.string ⟨#[]⟩) := (blk_cell BKg1.out 3).trans rfl; have hfz3 := blk_frozen BKg1.out 3; have hcz4 : w1.cell? ⟨g1, 4, none⟩ = some (.string ⟨#[]⟩) := (blk_cell BKg1.out 4).trans rfl; have hfz4 := blk_frozen BKg1.out 4; have hcz5 : w1.cell? ⟨g1, 5, none⟩ = some (.string ⟨#[]⟩) := (blk_cell BKg1.out 5).trans rfl; have hfz5 := blk_frozen BKg1.out 5; have hcz6 : w1.cell? ⟨g1, 6, none⟩ = some (.string ⟨#[]⟩) := (blk_cell BKg1.out 6).trans rfl; have hfz6 := blk_frozen BKg1.out 6; have hcz7 : w1.cell? ⟨g1, 7, none⟩ = some (.string ⟨#[]⟩) := (blk_cell BKg1.out 7).trans rfl; have hfz7 := blk_frozen BKg1.out 7; have hcz8 : w1.cell? ⟨g1, 8, none⟩ = some (.string ⟨#[]⟩) := (blk_cell BKg1.out 8).trans rfl; have hfz8 := blk_frozen BKg1.out 8))
 have N2 : Aside0 ((((((((((w1.setCell ⟨g1, 0, none⟩ (.string ⟨#[115, 116]⟩)).setCell ⟨g1, 1, none⟩ (.string ⟨#[114, 100]⟩)).setCell ⟨g1, 2, none⟩ (.string ⟨#[97, 118, 101]⟩)).setCell ⟨g1, 3, none⟩ (.string ⟨#[115, 113]⟩)).setCell ⟨g1, 4, none⟩ (.string ⟨#[110]⟩)).setCell ⟨g1, 5, none⟩ (.string ⟨#[115]⟩)).setCell ⟨g1, 6, none⟩ (.string ⟨#[101]⟩)).setCell ⟨g1, 7, none⟩ (.string ⟨#[119]⟩)).setCell ⟨g1, 8, none⟩ (.string ⟨#[115, 116, 101]⟩)).heap[g1]? = some (.cells #[.string ⟨#[115, 116]⟩, .string ⟨#[114, 100]⟩, .string ⟨#[97, 118, 101]⟩, .string ⟨#[115, 113]⟩, .string ⟨#[110]⟩, .string ⟨#[115]⟩, .string ⟨#[101]⟩, .string ⟨#[119]⟩, .string ⟨#[115, 116, 101]⟩] 33 (0, 0))) := ⟨by refine blk_put (cs := #[.string ⟨#[115, 116]⟩, .string ⟨#[114, 100]⟩, .string ⟨#[97, 118, 101]⟩, .string ⟨#[115, 113]⟩, .string ⟨#[110]⟩, .string ⟨#[115]⟩, .string ⟨#[101]⟩, .string ⟨#[119]⟩, .string ⟨#[]⟩]) ?_ 8 _ rfl; refine blk_put (cs := #[.string ⟨#[115, 116]⟩, .string ⟨#[114, 100]⟩, .string ⟨#[97, 118, 101]⟩, .string ⟨#[115, 113]⟩, .string ⟨#[110]⟩, .string ⟨#[115]⟩, .string ⟨#[101]⟩, .string ⟨#[]⟩, .string ⟨#[]⟩]) ?_ 7 _ rfl; refine blk_put (cs := #[.string ⟨#[115, 116]⟩, .string ⟨#[114, 100]⟩, .string ⟨#[97, 118, 101]⟩, .string ⟨#[115, 113]⟩, .string ⟨#[110]⟩, .string ⟨#[115]⟩, .string ⟨#[]⟩, .string ⟨#[]⟩, .string ⟨#[]⟩]) ?_ 6 _ rfl; refine blk_put (cs := #[.string ⟨#[115, 116]⟩, .string ⟨#[114, 100]⟩, .string ⟨#[97, 118, 101]⟩, .string ⟨#[115, 113]⟩, .string ⟨#[110]⟩, .string ⟨#[]⟩, .string ⟨#[]⟩, .string ⟨#[]⟩, .string ⟨#[]⟩]) ?_ 5 _ rfl; refine blk_put (cs := #[.string ⟨#[115, 116]⟩, .string ⟨#[114, 100]⟩, .string ⟨#[97, 118, 101]⟩, .string ⟨#[115, 113]⟩, .string ⟨#[]⟩, .string ⟨#[]⟩, .string ⟨#[]⟩, .string ⟨#[]⟩, .string ⟨#[]⟩]) ?_ 4 _ rfl; refine blk_put (cs := #[.string ⟨#[115, 116]⟩, .string ⟨#[114, 100]⟩, .string ⟨#[97, 118, 101]⟩, .string ⟨#[]⟩, .string ⟨#[]⟩, .string ⟨#[]⟩, .string ⟨#[]⟩, .string ⟨#[]⟩, .string ⟨#[]⟩]) ?_ 3 _ rfl; refine blk_put (cs := #[.string ⟨#[115, 116]⟩, .string ⟨#[114, 100]⟩, .string ⟨#[]⟩, .string ⟨#[]⟩, .string ⟨#[]⟩, .string ⟨#[]⟩, .string ⟨#[]⟩, .string ⟨#[]⟩, .string ⟨#[]⟩]) ?_ 2 _ rfl; refine blk_put (cs := #[.string ⟨#[115, 116]⟩, .string ⟨#[]⟩, .string ⟨#[]⟩, .string ⟨#[]⟩, .string ⟨#[]⟩, .string ⟨#[]⟩, .string ⟨#[]⟩, .string ⟨#[]⟩, .string ⟨#[]⟩]) ?_ 1 _ rfl; refine blk_put (cs := #[.string ⟨#[]⟩, .string ⟨#[]⟩, .string ⟨#[]⟩, .string ⟨#[]⟩, .string ⟨#[]⟩, .string ⟨#[]⟩, .string ⟨#[]⟩, .string ⟨#[]⟩, .string ⟨#[]⟩]) ?_ 0 _ rfl; exact BKg1.out⟩
 have N3 := Aside0.mk (below_set (g := g1) (j := 8) (v := .string ⟨#[115, 116, 101]⟩) (below_set (g := g1) (j := 7) (v := .string ⟨#[119]⟩) (below_set (g := g1) (j := 6) (v := .string ⟨#[101]⟩) (below_set (g := g1) (j := 5) (v := .string ⟨#[115]⟩) (below_set (g := g1) (j := 4) (v := .string ⟨#[110]⟩) (below_set (g := g1) (j := 3) (v := .string ⟨#[115, 113]⟩) (below_set (g := g1) (j := 2) (v := .string ⟨#[97, 118, 101]⟩) (below_set (g := g1) (j := 1) (v := .string ⟨#[114, 100]⟩) (below_set (g := g1) (j := 0) (v := .string ⟨#[115, 116]⟩) HB.out GEg1.out) GEg1.out) GEg1.out) GEg1.out) GEg1.out) GEg1.out) GEg1.out) GEg1.out) GEg1.out)
 clear hcz0 hfz0 hcz1 hfz1 hcz2 hfz2 hcz3 hfz3 hcz4 hfz4 hcz5 hfz5 hcz6 hfz6 hcz7 hfz7 hcz8 hfz8 BKg1 HB
 generalize (((((((((w1.setCell ⟨g1, 0, none⟩ (.string ⟨#[115, 116]⟩)).setCell ⟨g1, 1, none⟩ (.string ⟨#[114, 100]⟩)).setCell ⟨g1, 2, none⟩ (.string ⟨#[97, 118, 101]⟩)).setCell ⟨g1, 3, none⟩ (.string ⟨#[115, 113]⟩)).setCell ⟨g1, 4, none⟩ (.string ⟨#[110]⟩)).setCell ⟨g1, 5, none⟩ (.string ⟨#[115]⟩)).setCell ⟨g1, 6, none⟩ (.string ⟨#[101]⟩)).setCell ⟨g1, 7, none⟩ (.string ⟨#[119]⟩)).setCell ⟨g1, 8, none⟩ (.string ⟨#[115, 116, 101]⟩)) = W1 at N2 N3 ⊢
 have BKg1 := N2
 have HB := N3
 clear N2 N3
 go_upto_region 3 with (first
  | ((with_reducible refine gate_dst (N := 4) rfl ?_); refine box_event ?hg (N := 4) ?hd (cs := #[.string ⟨#[]⟩, .string ⟨#[]⟩, .string ⟨#[]⟩, .string ⟨#[]⟩, .string ⟨#[]⟩, .string ⟨#[]⟩, .string ⟨#[]⟩, .string ⟨#[]⟩, .string ⟨#[]⟩]) (t := 33) ?hr ?_; (case hd => rfl); (case hg => rfl); (case hr => first | (go_simp; done) | (go_simp; rfl)); intro g2 hg w2 hbox hb; have n0_ := Aside0.mk (below_step HB.out hb); have n1_ := Aside0.mk (blk_below (g := g1) (o := .cells #[.string ⟨#[115, 116]⟩, .string ⟨#[114, 100]⟩, .string ⟨#[97, 118, 101]⟩, .string ⟨#[115, 113]⟩, .string ⟨#[110]⟩, .string ⟨#[115]⟩, .string ⟨#[101]⟩, .string ⟨#[119]⟩, .string ⟨#[115, 116, 101]⟩] 33 (0, 0)) BKg1.out hb); have hnb : g1 ≠ g2 := (by rw [hg]; exact Nat.ne_of_lt (blk_lt BKg1.out)); have hnc : g2 ≠ g1 := hnb.symm; clear BKg1; have BKg1 := n1_; clear n1_; have BKg2 := Aside0.mk hbox; have GEg2 := Aside0.mk ((by rw [hg]; exact (below_size HB.out)) : w.heap.size ≤ g2); clear HB; have HB := n0_; clear n0_ hb hbox hg; have hcz0 : w2.cell? ⟨g2, 0, none⟩ = some (.string ⟨#[]⟩) := (blk_cell BKg2.out 0).trans rfl; have hfz0 := blk_frozen BKg2.out 0; have hcz1 : w2.cell? ⟨g2, 1, none⟩ = some (.string ⟨#[]⟩) := (blk_cell BKg2.out 1).trans rfl; have hfz1 := blk_frozen BKg2.out 1; have hcz2 : w2.cell? ⟨g2, 2, none⟩ = some (.string ⟨#[]⟩) := (blk_cell BKg2.out 2).trans rfl; have hfz2 := blk_frozen BKg2.out 2; have hcz3 : w2.cell? ⟨g2, 3, none⟩ = some (.string ⟨#[]⟩) := (blk_cell BKg2.out 3).trans rfl; have hfz3 := blk_frozen BKg2.out 3; have hcz4 : w2.cell? ⟨g2, 4, none⟩ = some (.string ⟨#[]⟩) := (blk_cell BKg2.out 4).trans rfl; have hfz4 := blk_frozen BKg2.out 4; have hcz5 : w2.cell? ⟨g2, 5, none⟩ = some (.string ⟨#[]⟩) := (blk_cell BKg2.out 5).trans rfl; have hfz5 := blk_frozen BKg2.out 5; have hcz6 : w2.cell? ⟨g2, 6, none⟩ = some (.string ⟨#[]⟩) := (blk_cell BKg2.out 6).trans rfl; have hfz6 := blk_frozen BKg2.out 6; have hcz7 : w2.cell? ⟨g2, 7, none⟩ = some (.string ⟨#[]⟩) := (blk_cell BKg2.out 7).trans rfl; have hfz7 := blk_frozen BKg2.out 7; have hcz8 : w2.cell? ⟨g2, 8, none⟩ = some (.string ⟨#[]⟩) := (blk_cell BKg2.out 8).trans rfl; have hfz8 := blk_frozen BKg2.out 8))
 have N1 := Aside0.mk (blk_far (p := ⟨g2, 8, none⟩) (blk_far (p := ⟨g2, 7, none⟩) (blk_far (p := ⟨g2, 6, none⟩) (blk_far (p := ⟨g2, 5, none⟩) (blk_far (p := ⟨g2, 4, none⟩) (blk_far (p := ⟨g2, 3, none⟩) (blk_far (p := ⟨g2, 2, none⟩) (blk_far (p := ⟨g2, 1, none⟩) (blk_far (p := ⟨g2, 0, none⟩) BKg1.out hnb (.string ⟨#[115, 116, 114, 101, 101, 116]⟩)) hnb (.string ⟨#[114, 111, 97, 100]⟩)) hnb (.string ⟨#[97, 118, 101, 110, 117, 101]⟩)) hnb (.string ⟨#[115, 113, 117, 97, 114, 101]⟩)) hnb (.string ⟨#[110, 111, 114, 116, 104]⟩)) hnb (.string ⟨#[115, 111, 117, 116, 104]⟩)) hnb (.string ⟨#[101, 97, 115, 116]⟩)) hnb (.string ⟨#[119, 101, 115, 116]⟩)) hnb (.string ⟨#[115, 97, 105, 110, 116]⟩))
 have N2 : Aside0 ((((((((((w2.setCell ⟨g2, 0, none⟩ (.string ⟨#[115, 116, 114, 101, 101, 116]⟩)).setCell ⟨g2, 1, none⟩ (.string ⟨#[114, 111, 97, 100]⟩)).setCell ⟨g2, 2, none⟩ (.string ⟨#[97, 118, 101, 110, 117, 101]⟩)).setCell ⟨g2, 3, none⟩ (.string ⟨#[115, 113, 117, 97, 114, 101]⟩)).setCell ⟨g2, 4, none⟩ (.string ⟨#[110, 111, 114, 116, 104]⟩)).setCell ⟨g2, 5, none⟩ (.string ⟨#[115, 111, 117, 116, 104]⟩)).setCell ⟨g2, 6, none⟩ (.string ⟨#[101, 97, 115, 116]⟩)).setCell ⟨g2, 7, none⟩ (.string ⟨#[119, 101, 115, 116]⟩)).setCell ⟨g2, 8, none⟩ (.string ⟨#[115, 97, 105, 110, 116]⟩)).heap[g2]? = some (.cells #[.string ⟨#[115, 116, 114, 101, 101, 116]⟩, .string ⟨#[114, 111, 97, 100]⟩, .string ⟨#[97, 118, 101, 110, 117, 101]⟩, .string ⟨#[115, 113, 117, 97, 114, 101]⟩, .string ⟨#[110, 111, 114, 116, 104]⟩, .string ⟨#[115, 111, 117, 116, 104]⟩, .string ⟨#[101, 97, 115, 116]⟩, .string ⟨#[119, 101, 115, 116]⟩, .string ⟨#[115, 97, 105, 110, 116]⟩] 33 (0, 0))) := ⟨by refine blk_put (cs := #[.string ⟨#[115, 116, 114, 101, 101, 116]⟩, .string ⟨#[114, 111, 97, 100]⟩, .string ⟨#[97, 118, 101, 110, 117, 101]⟩, .string ⟨#[115, 113, 117, 97, 114, 101]⟩, .string ⟨#[110, 111, 114, 116, 104]⟩, .string ⟨#[115, 111, 117, 116, 104]⟩, .string ⟨#[101, 97, 115, 116]⟩, .string ⟨#[119, 101, 115, 116]⟩, .string ⟨#[]⟩]) ?_ 8 _ rfl; refine blk_put (cs := #[.string ⟨#[115, 116, 114, 101, 101, 116]⟩, .string ⟨#[114, 111, 97, 100]⟩, .string ⟨#[97, 118, 101, 110, 117, 101]⟩, .string ⟨#[115, 113, 117, 97, 114, 101]⟩, .string ⟨#[110, 111, 114, 116, 104]⟩, .string ⟨#[115, 111, 117, 116, 104]⟩, .string ⟨#[101, 97, 115, 116]⟩, .string ⟨#[]⟩, .string ⟨#[]⟩]) ?_ 7 _ rfl; refine blk_put (cs := #[.string ⟨#[115, 116, 114, 101, 101, 116]⟩, .string ⟨#[114, 111, 97, 100]⟩, .string ⟨#[97, 118, 101, 110, 117, 101]⟩, .string ⟨#[115, 113, 117, 97, 114, 101]⟩, .string ⟨#[110, 111, 114, 116, 104]⟩, .string ⟨#[115, 111, 117, 116, 104]⟩, .string ⟨#[]⟩, .string ⟨#[]⟩, .string ⟨#[]⟩]) ?_ 6 _ rfl; refine blk_put (cs := #[.string ⟨#[115, 116, 114, 101, 101, 116]⟩, .string ⟨#[114, 111, 97, 100]⟩, .string ⟨#[97, 118, 101, 110, 117, 101]⟩, .string ⟨#[115, 113, 117, 97, 114, 101]⟩, .string ⟨#[110, 111, 114, 116, 104]⟩, .string ⟨#[]⟩, .string ⟨#[]⟩, .string ⟨#[]⟩, .string ⟨#[]⟩]) ?_ 5 _ rfl; refine blk_put (cs := #[.string ⟨#[115, 116, 114, 101, 101, 116]⟩, .string ⟨#[114, 111, 97, 100]⟩, .string ⟨#[97, 118, 101, 110, 117, 101]⟩, .string ⟨#[115, 113, 117, 97, 114, 101]⟩, .string ⟨#[]⟩, .string ⟨#[]⟩, .string ⟨#[]⟩, .string ⟨#[]⟩, .string ⟨#[]⟩]) ?_ 4 _ rfl; refine blk_put (cs := #[.string ⟨#[115, 116, 114, 101, 101, 116]⟩, .string ⟨#[114, 111, 97, 100]⟩, .string ⟨#[97, 118, 101, 110, 117, 101]⟩, .string ⟨#[]⟩, .string ⟨#[]⟩, .string ⟨#[]⟩, .string ⟨#[]⟩, .string ⟨#[]⟩, .string ⟨#[]⟩]) ?_ 3 _ rfl; refine blk_put (cs := #[.string ⟨#[115, 116, 114, 101, 101, 116]⟩, .string ⟨#[114, 111, 97, 100]⟩, .string ⟨#[]⟩, .string ⟨#[]⟩, .string ⟨#[]⟩, .string ⟨#[]⟩, .string ⟨#[]⟩, .string ⟨#[]⟩, .string ⟨#[]⟩]) ?_ 2 _ rfl; refine blk_put (cs := #[.string ⟨#[115, 116, 114, 101, 101, 116]⟩, .string ⟨#[]⟩, .string ⟨#[]⟩, .string ⟨#[]⟩, .string ⟨#[]⟩, .string ⟨#[]⟩, .string ⟨#[]⟩, .string ⟨#[]⟩, .string ⟨#[]⟩]) ?_ 1 _ rfl; refine blk_put (cs := #[.string ⟨#[]⟩, .string ⟨#[]⟩, .string ⟨#[]⟩, .string ⟨#[]⟩, .string ⟨#[]⟩, .string ⟨#[]⟩, .string ⟨#[]⟩, .string ⟨#[]⟩, .string ⟨#[]⟩]) ?_ 0 _ rfl; exact BKg2.out⟩
 have N3 := Aside0.mk (below_set (g := g2) (j := 8) (v := .string ⟨#[115, 97, 105, 110, 116]⟩) (below_set (g := g2) (j := 7) (v := .string ⟨#[119, 101, 115, 116]⟩) (below_set (g := g2) (j := 6) (v := .string ⟨#[101, 97, 115, 116]⟩) (below_set (g := g2) (j := 5) (v := .string ⟨#[115, 111, 117, 116, 104]⟩) (below_set (g := g2) (j := 4) (v := .string ⟨#[110, 111, 114, 116, 104]⟩) (below_set (g := g2) (j := 3) (v := .string ⟨#[115, 113, 117, 97, 114, 101]⟩) (below_set (g := g2) (j := 2) (v := .string ⟨#[97, 118, 101, 110, 117, 101]⟩) (below_set (g := g2) (j := 1) (v := .string ⟨#[114, 111, 97, 100]⟩) (below_set (g := g2) (j := 0) (v := .string ⟨#[115, 116, 114, 101, 101, 116]⟩) HB.out GEg2.out) GEg2.out) GEg2.out) GEg2.out) GEg2.out) GEg2.out) GEg2.out) GEg2.out) GEg2.out)
 clear hcz0 hfz0 hcz1 hfz1 hcz2 hfz2 hcz3 hfz3 hcz4 hfz4 hcz5 hfz5 hcz6 hfz6 hcz7 hfz7 hcz8 hfz8 BKg1 BKg2 HB
 generalize (((((((((w2.setCell ⟨g2, 0, none⟩ (.string ⟨#[115, 116, 114, 101, 101, 116]⟩)).setCell ⟨g2, 1, none⟩ (.string ⟨#[114, 111, 97, 100]⟩)).setCell ⟨g2, 2, none⟩ (.string ⟨#[97, 118, 101, 110, 117, 101]⟩)).setCell ⟨g2, 3, none⟩ (.string ⟨#[115, 113, 117, 97, 114, 101]⟩)).setCell ⟨g2, 4, none⟩ (.string ⟨#[110, 111, 114, 116, 104]⟩)).setCell ⟨g2, 5, none⟩ (.string ⟨#[115, 111, 117, 116, 104]⟩)).setCell ⟨g2, 6, none⟩ (.string ⟨#[101, 97, 115, 116]⟩)).setCell ⟨g2, 7, none⟩ (.string ⟨#[119, 101, 115, 116]⟩)).setCell ⟨g2, 8, none⟩ (.string ⟨#[115, 97, 105, 110, 116]⟩)) = W2 at N1 N2 N3 ⊢
 have ha0 : W2.cell? ⟨g1, 0, none⟩ = some (.string ⟨#[115, 116]⟩) := (blk_cell N1.out 0).trans rfl
 have ha1 : W2.cell? ⟨g1, 1, none⟩ = some (.string ⟨#[114, 100]⟩) := (blk_cell N1.out 1).trans rfl
 have ha2 : W2.cell? ⟨g1, 2, none⟩ = some (.string ⟨#[97, 118, 101]⟩) := (blk_cell N1.out 2).trans rfl
 have ha3 : W2.cell? ⟨g1, 3, none⟩ = some (.string ⟨#[115, 113]⟩) := (blk_cell N1.out 3).trans rfl
 have ha4 : W2.cell? ⟨g1, 4, none⟩ = some (.string ⟨#[110]⟩) := (blk_cell N1.out 4).trans rfl
 have ha5 : W2.cell? ⟨g1, 5, none⟩ = some (.string ⟨#[115]⟩) := (blk_cell N1.out 5).trans rfl
 have ha6 : W2.cell? ⟨g1, 6, none⟩ = some (.string ⟨#[101]⟩) := (blk_cell N1.out 6).trans rfl
 have ha7 : W2.cell? ⟨g1, 7, none⟩ = some (.string ⟨#[119]⟩) := (blk_cell N1.out 7).trans rfl
 have ha8 : W2.cell? ⟨g1, 8, none⟩ = some (.string ⟨#[115, 116, 101]⟩) := (blk_cell N1.out 8).trans rfl
 have hb0 : W2.cell? ⟨g2, 0, none⟩ = some (.string ⟨#[115, 116, 114, 101, 101, 116]⟩) := (blk_cell N2.out 0).trans rfl
 have hb1 : W2.cell? ⟨g2, 1, none⟩ = some (.string ⟨#[114, 111, 97, 100]⟩) := (blk_cell N2.out 1).trans rfl
 have hb2 : W2.cell? ⟨g2, 2, none⟩ = some (.string ⟨#[97, 118, 101, 110, 117, 101]⟩) := (blk_cell N2.out 2).trans rfl
 have hb3 : W2.cell? ⟨g2, 3, none⟩ = some (.string ⟨#[115, 113, 117, 97, 114, 101]⟩) := (blk_cell N2.out 3).trans rfl
 have hb4 : W2.cell? ⟨g2, 4, none⟩ = some (.string ⟨#[110, 111, 114, 116, 104]⟩) := (blk_cell N2.out 4).trans rfl
 have hb5 : W2.cell? ⟨g2, 5, none⟩ = some (.string ⟨#[115, 111, 117, 116, 104]⟩) := (blk_cell N2.out 5).trans rfl
 have hb6 : W2.cell? ⟨g2, 6, none⟩ = some (.string ⟨#[101, 97, 115, 116]⟩) := (blk_cell N2.out 6).trans rfl
 have hb7 : W2.cell? ⟨g2, 7, none⟩ = some (.string ⟨#[119, 101, 115, 116]⟩) := (blk_cell N2.out 7).trans rfl
 have hb8 : W2.cell? ⟨g2, 8, none⟩ = some (.string ⟨#[115, 97, 105, 110, 116]⟩) := (blk_cell N2.out 8).trans rfl
 go_wp2
 refine wp_loop_rounds 10 ?_
 have h := HH.out
 clear HH
 rw [rounds_succ]
 by_cases c0 : ([115, 116] : List UInt8) = a0.toList
 ·rw [if_pos c0] at h
  obtain rfl := Option.some.inj h
  have b0 : (([115, 116] : List UInt8) == a0.toList) = true := beq_iff_eq.2 c0
  clear c0
  go_wp2
  go_ret
  exact ⟨rfl, N3.out⟩
 rw [if_neg c0] at h
 have b0 : (([115, 116] : List UInt8) == a0.toList) = false := beq_eq_false_iff_ne.2 c0
 clear c0
 go_wp2
 rw [rounds_succ]
 by_cases c1 : ([114, 100] : List UInt8) = a0.toList
 ·rw [if_pos c1] at h
  obtain rfl := Option.some.inj h
  have b0 : (([114, 100] : List UInt8) == a0.toList) = true := beq_iff_eq.2 c1
  clear c1
  go_wp2
  go_ret
  exact ⟨rfl, N3.out⟩
 rw [if_neg c1] at h
 have b1 : (([114, 100] : List UInt8) == a0.toList) = false := beq_eq_false_iff_ne.2 c1
 clear c1
 go_wp2
 rw [rounds_succ]
 by_cases c2 : ([97, 118, 101] : List UInt8) = a0.toList
 ·rw [if_pos c2] at h
  obtain rfl := Option.some.inj h
  have b0 : (([97, 118, 101] : List UInt8) == a0.toList) = true := beq_iff_eq.2 c2
  clear c2
  go_wp2
  go_ret
  exact ⟨rfl, N3.out⟩
 rw [if_neg c2] at h
 have b2 : (([97, 118, 101] : List UInt8) == a0.toList) = false := beq_eq_false_iff_ne.2 c2
 clear c2
 go_wp2
 rw [rounds_succ]
 by_cases c3 : ([115, 113] : List UInt8) = a0.toList
 ·rw [if_pos c3] at h
  obtain rfl := Option.some.inj h
  have b0 : (([115, 113] : List UInt8) == a0.toList) = true := beq_iff_eq.2 c3
  clear c3
  go_wp2
  go_ret
  exact ⟨rfl, N3.out⟩
 rw [if_neg c3] at h
 have b3 : (([115, 113] : List UInt8) == a0.toList) = false := beq_eq_false_iff_ne.2 c3
 clear c3
 go_wp2
 rw [rounds_succ]
 by_cases c4 : ([110] : List UInt8) = a0.toList
 ·rw [if_pos c4] at h
  obtain rfl := Option.some.inj h
  have b0 : (([110] : List UInt8) == a0.toList) = true := beq_iff_eq.2 c4
  clear c4
  go_wp2
  go_ret
  exact ⟨rfl, N3.out⟩
 rw [if_neg c4] at h
 have b4 : (([110] : List UInt8) == a0.toList) = false := beq_eq_false_iff_ne.2 c4
 clear c4
 go_wp2
 rw [rounds_succ]
 by_cases c5 : ([115] : List UInt8) = a0.toList
 ·rw [if_pos c5] at h
  obtain rfl := Option.some.inj h
  have b0 : (([115] : List UInt8) == a0.toList) = true := beq_iff_eq.2 c5
  clear c5
  go_wp2
  go_ret
  exact ⟨rfl, N3.out⟩
 rw [if_neg c5] at h
 have b5 : (([115] : List UInt8) == a0.toList) = false := beq_eq_false_iff_ne.2 c5
 clear c5
 go_wp2
 rw [rounds_succ]
 by_cases c6 : ([101] : List UInt8) = a0.toList
 ·rw [if_pos c6] at h
  obtain rfl := Option.some.inj h
  have b0 : (([101] : List UInt8) == a0.toList) = true := beq_iff_eq.2 c6
  clear c6
  go_wp2
  go_ret
  exact ⟨rfl, N3.out⟩
 rw [if_neg c6] at h
 have b6 : (([101] : List UInt8) == a0.toList) = false := beq_eq_false_iff_ne.2 c6
 clear c6
 go_wp2
 rw [rounds_succ]
 by_cases c7 : ([119] : List UInt8) = a0.toList
 ·rw [if_pos c7] at h
  obtain rfl := Option.some.inj h
  have b0 : (([119] : List UInt8) == a0.toList) = true := beq_iff_eq.2 c7
  clear c7
  go_wp2
  go_ret
  exact ⟨rfl, N3.out⟩
 rw [if_neg c7] at h
 have b7 : (([119] : List UInt8) == a0.toList) = false := beq_eq_false_iff_ne.2 c7
 clear c7
 go_wp2
 rw [rounds_succ]
 by_cases c8 : ([115, 116, 101] : List UInt8) = a0.toList
 ·rw [if_pos c8] at h
  obtain rfl := Option.some.inj h
  have b0 : (([115, 116, 101] : List UInt8) == a0.toList) = true := beq_iff_eq.2 c8
  clear c8
  go_wp2
  go_ret
  exact ⟨rfl, N3.out⟩
 rw [if_neg c8] at h
 have b8 : (([115, 116, 101] : List UInt8) == a0.toList) = false := beq_eq_false_iff_ne.2 c8
 clear c8
 go_wp2
 rw [rounds_succ]
 obtain rfl := Option.some.inj h
 go_wp2
 go_ret
 exact ⟨rfl, N3.out⟩

end Go.Proofs.Ytfmanlgfinlekaa.PAll
