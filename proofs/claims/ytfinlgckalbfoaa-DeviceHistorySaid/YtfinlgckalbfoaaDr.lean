/- The reference's Limit, Write and After over a device that is only read. -/
import Derived.Test.YtfinlgckalbfoaaDo
import Derived.Test.YtfinlgckalbfoaaPAllx2
import Derived.Test.YtfinlgckalbfoaaPAllx5
import Derived.Test.YtfinlgckalbfoaaPAllx6
import Derived.Test.YtfinlgckalbfoaaPAllx4
namespace Go.Proofs.Ytfinlgckalbfoaa.PAll
open Go.RowKit Go.Proofs.YtfinlgckalbfoaaW.PrintWords Go.Proofs.YtfinlgckalbfoaaW.PrintLast Go.Proofs.YtfinlgckalbfoaaW.PrintMore
set_option linter.unusedVariables false
set_option linter.unusedSimpArgs false
attribute [local irreducible] Calls
attribute [local go_sem] max2_int min2_int max_two min_two

structure RM where
  nil : Bool
  bl : List ByteArray
  fi : List ByteArray
  at_ : List Int
  pu : List ByteArray
  left : Int
/-- The reference's device: its rows, read. -/
structure MV (w : World) (ok : Nat → Prop) (v1 v2 v3 v4 : Value) (m : RM) : Prop where
  r1 : Kd.V Kd.string 9 w 0 ok v1 m.bl
  r2 : Kd.V Kd.string 9 w 0 ok v2 m.fi
  r3 : Kd.V (Kd.int .i64) 3 w 0 ok v3 m.at_
  r4 : Kd.V Kd.string 9 w 0 ok v4 m.pu
section
variable {w w1 : World} {ok ok' : Nat → Prop} {v1 v2 v3 v4 : Value} {m : RM}
theorem MV.mono (h : MV w ok v1 v2 v3 v4 m) (hm : ∀ k, ok k → ok' k) : MV w ok' v1 v2 v3 v4 m := ⟨Kd.V_mono h.r1 hm, Kd.V_mono h.r2 hm, Kd.V_mono h.r3 hm, Kd.V_mono h.r4 hm⟩
theorem MV.below (h : MV w ok v1 v2 v3 v4 m) (hb : Below w.heap.size w w1) : MV w1 ok v1 v2 v3 v4 m := ⟨Kd.V_below h.r1 hb, Kd.V_below h.r2 hb, Kd.V_below h.r3 hb, Kd.V_below h.r4 hb⟩
theorem MV.bound (h : MV w ok v1 v2 v3 v4 m) : MV w (fun k => ok k ∧ k < w.heap.size) v1 v2 v3 v4 m := ⟨Kd.V_bound h.r1, Kd.V_bound h.r2, Kd.V_bound h.r3, Kd.V_bound h.r4⟩
theorem MV.kept {S : Nat → Prop} (h : MV w ok v1 v2 v3 v4 m) (hk : Kept w w1 S) (hs : ∀ k, ok k → ¬ S k) : MV w1 (fun k => ok k ∧ (¬ S k ∧ k < w.heap.size)) v1 v2 v3 v4 m :=
  have hb := h.bound.mono (ok' := fun k => ok k ∧ (¬ S k ∧ k < w.heap.size)) (fun k h => ⟨h.1, hs k h.1, h.2⟩)
  have st : ∀ k, (ok k ∧ (¬ S k ∧ k < w.heap.size)) → k < w.heap.size → w1.heap[k]? = w.heap[k]? := fun k h hl => hk.2 k hl h.2.1
  ⟨Kd.V_step hb.r1 st, Kd.V_step hb.r2 st, Kd.V_step hb.r3 st, Kd.V_step hb.r4 st⟩
end
theorem c6 {w : World} {g t : Nat} {a b c d e f : Value} (h : w.heap[g]? = some (.cells #[a, b, c, d, e, f] t (0, 0))) : w.cell? ⟨g, 0, none⟩ = some a ∧ w.cell? ⟨g, 1, none⟩ = some b ∧ w.cell? ⟨g, 2, none⟩ = some c ∧ w.cell? ⟨g, 3, none⟩ = some d ∧ w.cell? ⟨g, 4, none⟩ = some e ∧ w.cell? ⟨g, 5, none⟩ = some f :=
  ⟨(blk_cell h 0).trans rfl, (blk_cell h 1).trans rfl, (blk_cell h 2).trans rfl, (blk_cell h 3).trans rfl, (blk_cell h 4).trans rfl, (blk_cell h 5).trans rfl⟩
theorem store_agg {w : World} {g t ty : Nat} {cur seg : List Value} (hg : w.heap[g]? = some (.cells cur.toArray t (0, 0))) (hl : cur.length = seg.length) (hi : (Try.prog.info? ty).map (·.size) = some seg.length) (h1 : ∀ u ∈ seg, u.oneCell' = true) :
    ∃ w1, (Instr.storeAt ty (.pointer (some ⟨g, 0, none⟩)) (.agg seg.toArray)).run Try.prog w = .ok () w1 ∧ w1.heap[g]? = some (.cells seg.toArray t (0, 0)) ∧ w.grownBy w1 (some g) := by
  obtain ⟨cur', k1, k2, k3⟩ := setCells_row seg 0 w _ hg (by rw [List.size_toArray]; omega)
  obtain ⟨s1, s2, s3, s4⟩ := setCells_same g seg 0 w
  refine ⟨w.setCells g 0 seg, run_store_run ty _ seg hg (by simp [Value.cells]) hi (by rw [List.size_toArray]; omega) h1, ?_, ⟨s1, s2, s3, by rw [s4]; exact Nat.le_refl _, fun k _ hk => setCells_far _ _ k (fun he => hk (by rw [he]))⟩⟩
  rw [k1, show cur' = seg.toArray from by
    apply Array.ext'
    rw [k3, List.take_zero, List.nil_append, Nat.zero_add, List.drop_of_length_le (by simp [hl]), List.append_nil]]
/-- A store of a whole device of the reference into its box. -/
theorem store36 {w : World} {g : Nat} {a b c d e f a' b' c' d' e' f' : Value} (hg : w.heap[g]? = some (.cells #[a, b, c, d, e, f] 36 (0, 0))) (h1 : ∀ u ∈ [a', b', c', d', e', f'], u.oneCell' = true) :
    ∃ w1, (Instr.storeAt 36 (.pointer (some ⟨g, 0, none⟩)) (.agg #[a', b', c', d', e', f'])).run Try.prog w = .ok () w1 ∧ w1.heap[g]? = some (.cells #[a', b', c', d', e', f'] 36 (0, 0)) ∧ w.grownBy w1 (some g) :=
  store_agg (cur := [a, b, c, d, e, f]) (seg := [a', b', c', d', e', f']) hg rfl (by kernel_rfl) h1
theorem below_grow {w w1 w2 : World} {g : Nat} (h : Below w.heap.size w w1) (hg : w1.grownBy w2 (some g)) (hb : w.heap.size ≤ g) : Below w.heap.size w w2 := h.grown hg h.size (fun k e => by cases e; exact hb)
/-- What the reference's functions hand back. -/
def RPost (w : World) (ok : Nat → Prop) (m : RM) (e : Ending) (w' : World) : Prop := ∃ v1 v2 v3 v4, e = .returned (.agg #[.bool m.nil, v1, v2, v3, v4, .int .i64 m.left]) ∧ MV w' ok v1 v2 v3 v4 m ∧ Below w.heap.size w w'
def rLimit (m : RM) (n : Int) : RM := { m with left := if m.nil = true then m.left else max n 0 }
def Z6 : List Value := [.bool false, .slice none 0 0, .slice none 0 0, .slice none 0 0, .slice none 0 0, .int .i64 0]
set_option maxHeartbeats 16000000 in
set_option maxRecDepth 1000000 in
theorem ref_Limit {w : World} {ok : Nat → Prop} {v1 v2 v3 v4 : Value} {m : RM} (h : MV w ok v1 v2 v3 v4 m) (n : Int) : Calls Try.prog 18 #[.agg #[.bool m.nil, v1, v2, v3, v4, .int .i64 m.left], .int .i64 n] w (RPost w ok (rLimit m n)) := by
  obtain ⟨A1, c1, rfl⟩ := Kd.V_slice h.r1
  obtain ⟨A2, c2, rfl⟩ := Kd.V_slice h.r2
  obtain ⟨A3, c3, rfl⟩ := Kd.V_slice h.r3
  obtain ⟨A4, c4, rfl⟩ := Kd.V_slice h.r4
  have HM := Aside0.mk h
  obtain ⟨m1, hm1⟩ : ∃ m1, (if n < 0 then 0 else n) = m1 := ⟨_, rfl⟩
  have HX := Aside0.mk (show max n 0 = m1 from by omega)
  clear h
  obtain ⟨mn, mb, mf, ma, mp, ml⟩ := m
  dsimp only at HM ⊢
  cases mn
  · go_enter Try.func18, Try.ntmps18
    go_wp2_with (first
      | ((with_reducible refine gate_dst (N := 2) rfl ?_); refine box_event rfl (N := 2) rfl (cs := #[(.bool false), (.slice A1 mb.length c1), (.slice A2 mf.length c2), (.slice A3 ma.length c3), (.slice A4 mp.length c4), (.int .i64 ml)]) (t := 36) ?hrp ?_; (case hrp => first | (go_simp; done) | (go_simp; rfl)); intro gp hgp wp hbox hbb; have BP := Aside0.mk hbox; have GP := Aside0.mk (show w.heap.size ≤ gp from by rw [hgp]; exact Nat.le_refl _); have HB := Aside0.mk hbb; obtain ⟨q0, q1, q2, q3, q4, q5⟩ := c6 hbox; clear hbox hgp hbb)
      | ((with_reducible refine gate_dst (N := 4) rfl ?_); refine box_event rfl (N := 4) rfl (cs := #[.bool false, .slice none 0 0, .slice none 0 0, .slice none 0 0, .slice none 0 0, .int .i64 0]) (t := 36) ?hra ?_; (case hra => first | (go_simp; done) | (go_simp; rfl)); intro gr hgr wr hbox hbb; have BR := Aside0.mk hbox; have GR := Aside0.mk (show w.heap.size ≤ gr from by rw [hgr]; exact HB.out.size); have GN := Aside0.mk (show gp < gr from by rw [hgr]; exact blk_lt BP.out); have n1_ := Aside0.mk (blk_below BP.out hbb); have n2_ := Aside0.mk (below_step HB.out hbb); clear BP HB q0 q1 q2 q3 q4 q5; have BP := n1_; have HB := n2_; clear n1_ n2_; obtain ⟨q0, q1, q2, q3, q4, q5⟩ := c6 BP.out; clear hbox hgr hbb)
      | ((with_reducible refine gate_store (t := 3) (p := 10) rfl ?_); go_loud (refine store_event rfl (t := 3) (p := 10) (v := .tmp 9) (w1 := wr.setCell ⟨gp, 5, none⟩ (.int .i64 m1)) rfl rfl ?hsl ?_; (case hsl => have fz := blk_frozen BP.out 5; first | (go_simp; done) | (go_simp; rfl)); intro wl hwl; have n1_ := Aside0.mk (show wl.heap[gp]? = some (.cells #[(.bool false), (.slice A1 mb.length c1), (.slice A2 mf.length c2), (.slice A3 ma.length c3), (.slice A4 mp.length c4), (.int .i64 m1)] 36 (0, 0)) from by rw [hwl]; exact blk_set BP.out 5 _); have n2_ := Aside0.mk (show wl.heap[gr]? = some (.cells #[.bool false, .slice none 0 0, .slice none 0 0, .slice none 0 0, .slice none 0 0, .int .i64 0] 36 (0, 0)) from by rw [hwl]; exact (Below.heap_setCell _ ⟨gp, 5, none⟩ _ gr (by have := GN.out; show gr ≠ gp; omega)).trans BR.out); have n3_ := Aside0.mk (show Below w.heap.size w wl from by rw [hwl]; exact below_set HB.out GP.out); clear BP BR HB q0 q1 q2 q3 q4 q5 hwl; have BP := n1_; have BR := n2_; have HB := n3_; clear n1_ n2_ n3_; obtain ⟨q0, q1, q2, q3, q4, q5⟩ := c6 BP.out))
      | ((with_reducible refine gate_store (t := 36) (p := 4) rfl ?_); obtain ⟨ws, hst, hbox, hgr⟩ := store36 BR.out (a' := (.bool false)) (b' := (.slice A1 mb.length c1)) (c' := (.slice A2 mf.length c2)) (d' := (.slice A3 ma.length c3)) (e' := (.slice A4 mp.length c4)) (f' := (.int .i64 m1)) (by intro u hu; simp only [List.mem_cons, List.not_mem_nil, or_false] at hu; rcases hu with rfl | rfl | rfl | rfl | rfl | rfl <;> rfl); refine store_event rfl (t := 36) (p := 4) (v := .tmp 11) (w1 := ws) rfl rfl (exec_store rfl rfl rfl hst) ?_; intro wt hwt; subst hwt; have BS := Aside0.mk hbox; have HS := Aside0.mk (below_grow HB.out hgr GR.out); have HGR := Aside0.mk hgr; clear hst hbox hgr))
    refine bodyPost_ret (results_cell_row rfl _ _ gr 36 #[(.bool false), (.slice A1 mb.length c1), (.slice A2 mf.length c2), (.slice A3 ma.length c3), (.slice A4 mp.length c4), (.int .i64 m1)] (0, 0) _ rfl BS.out Try.underlying36 rfl (by kernel_rfl)) rfl ?_
    exact ⟨_, _, _, _, by unfold rLimit; first | rfl | (simp; done) | (simp [HX.out]; done), ⟨Kd.V_below HM.out.r1 HS.out, Kd.V_below HM.out.r2 HS.out, Kd.V_below HM.out.r3 HS.out, Kd.V_below HM.out.r4 HS.out⟩, HS.out⟩
  · go_enter Try.func18, Try.ntmps18
    go_wp2_with (first
      | ((with_reducible refine gate_dst (N := 2) rfl ?_); refine box_event rfl (N := 2) rfl (cs := #[(.bool true), (.slice A1 mb.length c1), (.slice A2 mf.length c2), (.slice A3 ma.length c3), (.slice A4 mp.length c4), (.int .i64 ml)]) (t := 36) ?hrp ?_; (case hrp => first | (go_simp; done) | (go_simp; rfl)); intro gp hgp wp hbox hbb; have BP := Aside0.mk hbox; have GP := Aside0.mk (show w.heap.size ≤ gp from by rw [hgp]; exact Nat.le_refl _); have HB := Aside0.mk hbb; obtain ⟨q0, q1, q2, q3, q4, q5⟩ := c6 hbox; clear hbox hgp hbb)
      | ((with_reducible refine gate_dst (N := 4) rfl ?_); refine box_event rfl (N := 4) rfl (cs := #[.bool false, .slice none 0 0, .slice none 0 0, .slice none 0 0, .slice none 0 0, .int .i64 0]) (t := 36) ?hra ?_; (case hra => first | (go_simp; done) | (go_simp; rfl)); intro gr hgr wr hbox hbb; have BR := Aside0.mk hbox; have GR := Aside0.mk (show w.heap.size ≤ gr from by rw [hgr]; exact HB.out.size); have GN := Aside0.mk (show gp < gr from by rw [hgr]; exact blk_lt BP.out); have n1_ := Aside0.mk (blk_below BP.out hbb); have n2_ := Aside0.mk (below_step HB.out hbb); clear BP HB q0 q1 q2 q3 q4 q5; have BP := n1_; have HB := n2_; clear n1_ n2_; obtain ⟨q0, q1, q2, q3, q4, q5⟩ := c6 BP.out; clear hbox hgr hbb)
      | ((with_reducible refine gate_store (t := 36) (p := 4) rfl ?_); obtain ⟨ws, hst, hbox, hgr⟩ := store36 BR.out (a' := (.bool true)) (b' := (.slice A1 mb.length c1)) (c' := (.slice A2 mf.length c2)) (d' := (.slice A3 ma.length c3)) (e' := (.slice A4 mp.length c4)) (f' := (.int .i64 ml)) (by intro u hu; simp only [List.mem_cons, List.not_mem_nil, or_false] at hu; rcases hu with rfl | rfl | rfl | rfl | rfl | rfl <;> rfl); refine store_event rfl (t := 36) (p := 4) (v := .tmp 11) (w1 := ws) rfl rfl (exec_store rfl rfl rfl hst) ?_; intro wt hwt; subst hwt; have BS := Aside0.mk hbox; have HS := Aside0.mk (below_grow HB.out hgr GR.out); have HGR := Aside0.mk hgr; clear hst hbox hgr))
    refine bodyPost_ret (results_cell_row rfl _ _ gr 36 #[(.bool true), (.slice A1 mb.length c1), (.slice A2 mf.length c2), (.slice A3 ma.length c3), (.slice A4 mp.length c4), (.int .i64 ml)] (0, 0) _ rfl BS.out Try.underlying36 rfl (by kernel_rfl)) rfl ?_
    exact ⟨_, _, _, _, by unfold rLimit; first | rfl | (simp; done) | (simp [HX.out]; done), ⟨Kd.V_below HM.out.r1 HS.out, Kd.V_below HM.out.r2 HS.out, Kd.V_below HM.out.r3 HS.out, Kd.V_below HM.out.r4 HS.out⟩, HS.out⟩
/-- The rows of the reference's device against the log. -/
structure LogM (m : RM) (lg : List (Int × ByteArray)) : Prop where
  a : m.at_ = lg.map Prod.fst
  p : m.pu = lg.map Prod.snd
  r : ∀ x ∈ lg, 0 ≤ x.1 ∧ x.1 < m.fi.length
def rAfter (m : RM) (lg : List (Int × ByteArray)) (n : Int) : RM := if m.nil = true then m else ⟨false, play m.fi (lg.take (min (max n 0).toNat lg.length)), play m.fi (lg.take (min (max n 0).toNat lg.length)), [], [], -1⟩
theorem info9' : (Try.prog.info? 9).map (fun i => (i.zero, i.size, i.bytes)) = some (some (.string ⟨#[]⟩), 1, 16) := by kernel_rfl
theorem info3' : (Try.prog.info? 3).map (fun i => (i.zero, i.size, i.bytes)) = some (some (.int .i64 0), 1, 8) := by kernel_rfl
set_option maxHeartbeats 16000000 in
set_option maxRecDepth 1000000 in
theorem ref_After_nil {w : World} {ok : Nat → Prop} {v1 v2 v3 v4 : Value} {m : RM} (h : MV w ok v1 v2 v3 v4 m) (hm : m.nil = true) (n : Int) : Calls Try.prog 19 #[.agg #[.bool m.nil, v1, v2, v3, v4, .int .i64 m.left], .int .i64 n] w (RPost w ok m) := by
  obtain ⟨A1, c1, rfl⟩ := Kd.V_slice h.r1
  obtain ⟨A2, c2, rfl⟩ := Kd.V_slice h.r2
  obtain ⟨A3, c3, rfl⟩ := Kd.V_slice h.r3
  obtain ⟨A4, c4, rfl⟩ := Kd.V_slice h.r4
  have HM := Aside0.mk h
  clear h
  obtain ⟨mn, mb, mf, ma, mp, ml⟩ := m
  dsimp only at HM hm ⊢
  subst hm
  go_enter Try.func19, Try.ntmps19
  go_wp2_with (first
    | ((with_reducible refine gate_dst (N := 2) rfl ?_); refine box_event rfl (N := 2) rfl (cs := #[(.bool true), (.slice A1 mb.length c1), (.slice A2 mf.length c2), (.slice A3 ma.length c3), (.slice A4 mp.length c4), (.int .i64 ml)]) (t := 36) ?hrp ?_; (case hrp => first | (go_simp; done) | (go_simp; rfl)); intro gp hgp wp hbox hbb; have BP := Aside0.mk hbox; have GP := Aside0.mk (show w.heap.size ≤ gp from by rw [hgp]; exact Nat.le_refl _); have HB := Aside0.mk hbb; obtain ⟨q0, q1, q2, q3, q4, q5⟩ := c6 hbox; clear hbox hgp hbb)
    | ((with_reducible refine gate_dst (N := 4) rfl ?_); refine box_event rfl (N := 4) rfl (cs := #[.bool false, .slice none 0 0, .slice none 0 0, .slice none 0 0, .slice none 0 0, .int .i64 0]) (t := 36) ?hra ?_; (case hra => first | (go_simp; done) | (go_simp; rfl)); intro gr hgr wr hbox hbb; have BR := Aside0.mk hbox; have GR := Aside0.mk (show w.heap.size ≤ gr from by rw [hgr]; exact HB.out.size); have GN := Aside0.mk (show gp < gr from by rw [hgr]; exact blk_lt BP.out); have n1_ := Aside0.mk (blk_below BP.out hbb); have n2_ := Aside0.mk (below_step HB.out hbb); clear BP HB q0 q1 q2 q3 q4 q5; have BP := n1_; have HB := n2_; clear n1_ n2_; obtain ⟨q0, q1, q2, q3, q4, q5⟩ := c6 BP.out; clear hbox hgr hbb)
    | ((with_reducible refine gate_store (t := 36) (p := 4) rfl ?_); obtain ⟨ws, hst, hbox, hgr⟩ := store36 BR.out (a' := (.bool true)) (b' := (.slice A1 mb.length c1)) (c' := (.slice A2 mf.length c2)) (d' := (.slice A3 ma.length c3)) (e' := (.slice A4 mp.length c4)) (f' := (.int .i64 ml)) (by intro u hu; simp only [List.mem_cons, List.not_mem_nil, or_false] at hu; rcases hu with rfl | rfl | rfl | rfl | rfl | rfl <;> rfl); refine store_event rfl (t := 36) (p := 4) (v := .tmp 9) (w1 := ws) rfl rfl (exec_store rfl rfl rfl hst) ?_; intro wt hwt; subst hwt; have BS := Aside0.mk hbox; have HS := Aside0.mk (below_grow HB.out hgr GR.out); have HGR := Aside0.mk hgr; clear hst hbox hgr))
  refine bodyPost_ret (results_cell_row rfl _ _ gr 36 #[(.bool true), (.slice A1 mb.length c1), (.slice A2 mf.length c2), (.slice A3 ma.length c3), (.slice A4 mp.length c4), (.int .i64 ml)] (0, 0) _ rfl BS.out Try.underlying36 rfl (by kernel_rfl)) rfl ?_
  exact ⟨_, _, _, _, by first | rfl | (simp; done), ⟨Kd.V_below HM.out.r1 HS.out, Kd.V_below HM.out.r2 HS.out, Kd.V_below HM.out.r3 HS.out, Kd.V_below HM.out.r4 HS.out⟩, HS.out⟩
set_option maxHeartbeats 16000000 in
set_option maxRecDepth 1000000 in
theorem ref_After {w : World} {ok : Nat → Prop} {v1 v2 v3 v4 : Value} {m : RM} (h : MV w ok v1 v2 v3 v4 m) (hm : m.nil = false) (lg : List (Int × ByteArray)) (hlg : LogM m lg) (hll : lg.length ≤ 1000000) (hfl : m.fi.length ≤ 65536) (n : Int) : Calls Try.prog 19 #[.agg #[.bool m.nil, v1, v2, v3, v4, .int .i64 m.left], .int .i64 n] w (RPost w (fun k => w.heap.size ≤ k) (rAfter m lg n)) := by
  obtain ⟨A1, c1, rfl⟩ := Kd.V_slice h.r1
  obtain ⟨A2, c2, rfl⟩ := Kd.V_slice h.r2
  obtain ⟨A3, c3, rfl⟩ := Kd.V_slice h.r3
  obtain ⟨A4, c4, rfl⟩ := Kd.V_slice h.r4
  have HM := Aside0.mk h
  have HL := Aside0.mk hlg
  have HX := Aside0.mk (And.intro hll hfl)
  clear h hlg hll hfl
  obtain ⟨mn, mb, mf, ma, mp, ml⟩ := m
  dsimp only at HM HX HL hm ⊢
  subst hm
  have hla : ma.length = lg.length := by have := HL.out.a; dsimp only at this; rw [this, List.length_map]
  have hlp : mp.length = lg.length := by have := HL.out.p; dsimp only at this; rw [this, List.length_map]
  have HLA := Aside0.mk hla
  have HLP := Aside0.mk hlp
  clear hla hlp
  go_enter Try.func19, Try.ntmps19
  go_wp2_with (first
    | ((with_reducible refine gate_dst (N := 2) rfl ?_); refine box_event rfl (N := 2) rfl (cs := #[(.bool false), (.slice A1 mb.length c1), (.slice A2 mf.length c2), (.slice A3 ma.length c3), (.slice A4 mp.length c4), (.int .i64 ml)]) (t := 36) ?hrp ?_; (case hrp => first | (go_simp; done) | (go_simp; rfl)); intro gp hgp wp hbox hbb; have BP := Aside0.mk hbox; have GP := Aside0.mk (show w.heap.size ≤ gp from by rw [hgp]; exact Nat.le_refl _); have HB := Aside0.mk hbb; obtain ⟨q0, q1, q2, q3, q4, q5⟩ := c6 hbox; clear hbox hgp hbb)
    | ((with_reducible refine gate_dst (N := 4) rfl ?_); refine box_event rfl (N := 4) rfl (cs := #[.bool false, .slice none 0 0, .slice none 0 0, .slice none 0 0, .slice none 0 0, .int .i64 0]) (t := 36) ?hra ?_; (case hra => first | (go_simp; done) | (go_simp; rfl)); intro gr hgr wr hbox hbb; have BR := Aside0.mk hbox; have GR := Aside0.mk (show w.heap.size ≤ gr from by rw [hgr]; exact HB.out.size); have GN := Aside0.mk (show gp < gr from by rw [hgr]; exact blk_lt BP.out); have n1_ := Aside0.mk (blk_below BP.out hbb); have n2_ := Aside0.mk (below_step HB.out hbb); clear BP HB q0 q1 q2 q3 q4 q5; have BP := n1_; have HB := n2_; clear n1_ n2_; obtain ⟨q0, q1, q2, q3, q4, q5⟩ := c6 BP.out; clear hbox hgr hbb)
    | ((with_reducible refine gate_builtin (b := .append) (xs := #[.tmp 10, .tmp 12]) rfl ?_); at_builtin; refine Kd.R_append_row Value.string ByteArray.empty (h1 := fun _ => rfl) (w0 := w) w.heap.size rfl (.tmp 10) (.tmp 12) 33 9 (.string ⟨#[]⟩) 16 rfl Try.underlying33 info9' rfl (by omega) (.slice none 0 0) [] mf A2 mf.length c2 (fun k => w.heap.size ≤ k) rfl rfl (fun k hk => Nat.le_trans HB.out.size hk) (Kd.R_nil _ _ _ _ _) (Kd.V_reads' (Kd.V_below HM.out.r2 HB.out)).2.2 HB.out HB.out.size (by have := HX.out.2; simp; omega) ?_; intro v5 w5 ho5 hb5 hg5 hat5; rw [List.nil_append] at ho5; obtain ⟨A5, c5, e5⟩ := Kd.R_slice ho5; subst e5; have HO := Aside0.mk ho5; have n1_ := Aside0.mk (blk_grown BP.out hg5 (by simp [Value.ownBlock])); have n2_ := Aside0.mk (blk_grown BR.out hg5 (by simp [Value.ownBlock])); have n3_ := Aside0.mk hb5; clear BP BR HB q0 q1 q2 q3 q4 q5 ho5 hb5 hg5 hat5; have BP := n1_; have BR := n2_; have HB := n3_; clear n1_ n2_ n3_; obtain ⟨q0, q1, q2, q3, q4, q5⟩ := c6 BP.out))
  obtain ⟨cnt, hcnt⟩ : ∃ cnt, cnt = min (max n 0).toNat lg.length := ⟨_, rfl⟩
  have HC := Aside0.mk hcnt
  have HP := Aside0.mk (show ∀ {W : World} {xs : List ByteArray} {b : Nat} {ok2 : Nat → Prop}, Kd.R Kd.string 9 W b ok2 (.slice A5 mf.length c5) xs → W.heap[gp]? = some (.cells #[.bool false, .slice A1 mb.length c1, .slice A2 mf.length c2, .slice A3 ma.length c3, .slice A4 mp.length c4, .int .i64 ml] 36 (0, 0)) → some gp ≠ (Value.slice A5 mf.length c5).ownBlock from fun hr hb => Kd.R_ne hr hb (by decide))
  have HRN := Aside0.mk (show ∀ {W : World} {xs : List ByteArray} {b : Nat} {ok2 : Nat → Prop}, Kd.R Kd.string 9 W b ok2 (.slice A5 mf.length c5) xs → W.heap[gr]? = some (.cells #[.bool false, .slice none 0 0, .slice none 0 0, .slice none 0 0, .slice none 0 0, .int .i64 0] 36 (0, 0)) → some gr ≠ (Value.slice A5 mf.length c5).ownBlock from fun hr hb => Kd.R_ne hr hb (by decide))
  clear q0 q1 q2 q3 q4 q5
  go_loopg [6] cnt (fun g vi wl => ∃ k : Nat, vi = .int .i64 (k : Int) ∧ k + g = cnt ∧ Kd.R Kd.string 9 wl w.heap.size (fun k => w.heap.size ≤ k) (.slice A5 mf.length c5) (play mf (lg.take k)) ∧ wl.heap[gp]? = some (.cells #[.bool false, .slice A1 mb.length c1, .slice A2 mf.length c2, .slice A3 ma.length c3, .slice A4 mp.length c4, .int .i64 ml] 36 (0, 0)) ∧ wl.heap[gr]? = some (.cells #[.bool false, .slice none 0 0, .slice none 0 0, .slice none 0 0, .slice none 0 0, .int .i64 0] 36 (0, 0)) ∧ Below w.heap.size w wl)
  case atStart => exact ⟨0, rfl, by omega, HO.out, BP.out, BR.out, HB.out⟩
  case round =>
    clear HO BP BR HB
    obtain ⟨k, rfl, hkg, ho, hbp, hbr, hb⟩ := hrel
    have HO := Aside0.mk ho
    have BP := Aside0.mk hbp
    have BR := Aside0.mk hbr
    have HB := Aside0.mk hb
    clear ho hbp hbr hb
    obtain ⟨q0, q1, q2, q3, q4, q5⟩ := c6 BP.out
    by_cases c : k < cnt
    · have hkl : k < lg.length := by omega
      have hk1 : (k : Int) < (ma.length : Int) := by have := HLA.out; omega
      have hk2 : (k : Int) < n := by omega
      have hk3 : (k : Int) < (mp.length : Int) := by have := HLP.out; omega
      have hk0 : (0 : Int) ≤ (k : Int) := Int.natCast_nonneg _
      have hat := HL.out.r (lg.getD k (0, ⟨#[]⟩)) (by rw [List.getD_eq_getElem?_getD, List.getElem?_eq_getElem hkl]; exact List.getElem_mem hkl)
      obtain ⟨ad3, e3, r3⟩ := Kd.at_int (Kd.V_reads' (Kd.V_below HM.out.r3 HB.out)).2.2 (k : Int) hk0 hk1
      obtain ⟨ad4, e4, r4⟩ := Kd.at_string (Kd.V_reads' (Kd.V_below HM.out.r4 HB.out)).2.2 (k : Int) hk0 hk3
      have x3 : rd ma (k : Int) = (lg.getD k (0, ⟨#[]⟩)).1 := by
        have e := HL.out.a
        dsimp only at e
        rw [e]
        unfold rd
        simp [List.getD_eq_getElem?_getD, List.getElem?_map, List.getElem?_eq_getElem hkl]
      have x4 : rdOf ByteArray.empty mp (k : Int) = (lg.getD k (0, ⟨#[]⟩)).2 := by
        have e := HL.out.p
        dsimp only at e
        rw [e]
        unfold rdOf
        simp [List.getD_eq_getElem?_getD, List.getElem?_map, List.getElem?_eq_getElem hkl]
      have hpt := play_take mf lg k hkl
      rw [x3] at r3
      rw [x4] at r4
      subst e3
      subst e4
      simp only [Int.toNat_natCast] at r3 r4
      generalize lg.getD k (0, ⟨#[]⟩) = x at r3 r4 hpt hat
      have HPT := Aside0.mk hpt
      obtain ⟨a0, a1⟩ := hat
      dsimp only at a1
      obtain ⟨g5, c5', e5, hg5, _⟩ := Kd.R_form HO.out (by rw [play_length]; omega)
      rw [play_length] at e5
      injection e5 with e5 _ e6
      subst e5
      subst e6
      have a2 : x.1 < ((play mf (lg.take k)).length : Int) := by rw [play_length]; exact a1
      obtain ⟨r5, f5⟩ := Kd.R_celln ByteArray.empty HO.out x.1 a0 a1
      have HS := Aside0.mk (Kd.R_putg HO.out x.1 x.2)
      have hcnt1 : (k : Int) + 1 ≤ (cnt : Int) := by omega
      clear x3 x4 hpt a2
      go_wp2
      go_region
      obtain ⟨hs1, hs2⟩ := HS.out
      have n1_ := Aside0.mk (Kd.R_drew hs1)
      have n2_ := Aside0.mk (blk_drew (blk_grown BP.out hs2 (HP.out HO.out BP.out)))
      have n3_ := Aside0.mk (blk_drew (blk_grown BR.out hs2 (HRN.out HO.out BR.out)))
      have n4_ := Aside0.mk (below_drew1 (below_grow HB.out hs2 hg5))
      clear HS hs1 hs2 HO BP BR HB q0 q1 q2 q3 q4 q5 r3 r4 r5 f5
      generalize (wr.setCell ⟨g5, x.1.toNat, none⟩ (.string x.2)).drew = w9 at *
      go_wp2
      go_roundg (cnt - (k + 1))
      case measure => omega
      case rel => exact ⟨k + 1, by have := HX.out.1; congr 1; unfold wrap64; omega, by omega, by rw [HPT.out]; exact n1_.out, n2_.out, n3_.out, n4_.out⟩
    · have hkc : k = cnt := by omega
      have hcc : (decide ((k : Int) < (ma.length : Int)) && decide ((k : Int) < n)) = false := by
        rw [HLA.out]
        have := HC.out
        simp only [Bool.and_eq_false_iff, decide_eq_false_iff_not]
        omega
      have HKC := Aside0.mk (show min (max n 0).toNat lg.length = k from by rw [hkc]; exact HC.out.symm)
      by_cases h1 : (k : Int) < (ma.length : Int)
      · have d1 : decide ((k : Int) < (ma.length : Int)) = true := decide_eq_true h1
        have d2 : decide ((k : Int) < n) = false := by rw [d1, Bool.true_and] at hcc; exact hcc
        have d3 : k < ma.length := by omega
        clear hcc h1 hkc c
        go_wp2_with (first
          | ((with_reducible refine gate_store (t := 36) (p := 4) rfl ?_); go_loud (obtain ⟨ws, hst, hbox, hgr⟩ := store36 BR.out (a' := (.bool false)) (b' := (.slice A5 mf.length c5)) (c' := (.slice A5 mf.length c5)) (d' := (.slice none 0 0)) (e' := (.slice none 0 0)) (f' := (.int .i64 (-1))) (by intro u hu; simp only [List.mem_cons, List.not_mem_nil, or_false] at hu; rcases hu with rfl | rfl | rfl | rfl | rfl | rfl <;> rfl); refine store_event rfl (t := 36) (p := 4) (v := .tmp 40) (w1 := ws) rfl rfl (exec_store rfl rfl rfl hst) ?_; intro wt hwt; subst hwt; have BS := Aside0.mk hbox; have HS := Aside0.mk (below_grow HB.out hgr GR.out); have HGR := Aside0.mk hgr; clear hst hbox hgr)))
        have hrn := HRN.out HO.out BR.out
        refine bodyPost_ret (results_cell_row rfl _ _ gr 36 #[.bool false, .slice A5 mf.length c5, .slice A5 mf.length c5, .slice none 0 0, .slice none 0 0, .int .i64 (-1)] (0, 0) _ rfl BS.out Try.underlying36 rfl (by kernel_rfl)) rfl ?_
        have hr2 : Kd.R Kd.string 9 wt w.heap.size (fun k => w.heap.size ≤ k) (.slice A5 mf.length c5) (play mf (lg.take k)) := Kd.R_mono (ok := fun k => w.heap.size ≤ k ∧ some k ≠ some gr) (Kd.R_grown (Kd.R_flat (ok' := fun k => w.heap.size ≤ k ∧ some k ≠ some gr) (fun h => h) HO.out (fun k e hk => ⟨hk, fun e2 => hrn (by rw [e, e2])⟩)) HGR.out (fun k hk => hk.2)) (fun k hk => hk.1)
        have hv := Kd.R_V (base' := 0) hr2
        refine ⟨.slice A5 mf.length c5, .slice A5 mf.length c5, .slice none 0 0, .slice none 0 0, by unfold rAfter; first | rfl | (simp; done), ?_, HS.out⟩
        unfold rAfter
        rw [HKC.out]
        exact ⟨hv, hv, Kd.V_nil _ _ _ _ _, Kd.V_nil _ _ _ _ _⟩
      · have d1 : decide ((k : Int) < (ma.length : Int)) = false := decide_eq_false h1
        have d3 : ¬ (k < ma.length) := by omega
        clear hcc h1 hkc c
        go_wp2_with (first
          | ((with_reducible refine gate_store (t := 36) (p := 4) rfl ?_); go_loud (obtain ⟨ws, hst, hbox, hgr⟩ := store36 BR.out (a' := (.bool false)) (b' := (.slice A5 mf.length c5)) (c' := (.slice A5 mf.length c5)) (d' := (.slice none 0 0)) (e' := (.slice none 0 0)) (f' := (.int .i64 (-1))) (by intro u hu; simp only [List.mem_cons, List.not_mem_nil, or_false] at hu; rcases hu with rfl | rfl | rfl | rfl | rfl | rfl <;> rfl); refine store_event rfl (t := 36) (p := 4) (v := .tmp 40) (w1 := ws) rfl rfl (exec_store rfl rfl rfl hst) ?_; intro wt hwt; subst hwt; have BS := Aside0.mk hbox; have HS := Aside0.mk (below_grow HB.out hgr GR.out); have HGR := Aside0.mk hgr; clear hst hbox hgr)))
        have hrn := HRN.out HO.out BR.out
        refine bodyPost_ret (results_cell_row rfl _ _ gr 36 #[.bool false, .slice A5 mf.length c5, .slice A5 mf.length c5, .slice none 0 0, .slice none 0 0, .int .i64 (-1)] (0, 0) _ rfl BS.out Try.underlying36 rfl (by kernel_rfl)) rfl ?_
        have hr2 : Kd.R Kd.string 9 wt w.heap.size (fun k => w.heap.size ≤ k) (.slice A5 mf.length c5) (play mf (lg.take k)) := Kd.R_mono (ok := fun k => w.heap.size ≤ k ∧ some k ≠ some gr) (Kd.R_grown (Kd.R_flat (ok' := fun k => w.heap.size ≤ k ∧ some k ≠ some gr) (fun h => h) HO.out (fun k e hk => ⟨hk, fun e2 => hrn (by rw [e, e2])⟩)) HGR.out (fun k hk => hk.2)) (fun k hk => hk.1)
        have hv := Kd.R_V (base' := 0) hr2
        refine ⟨.slice A5 mf.length c5, .slice A5 mf.length c5, .slice none 0 0, .slice none 0 0, by unfold rAfter; first | rfl | (simp; done), ?_, HS.out⟩
        unfold rAfter
        rw [HKC.out]
        exact ⟨hv, hv, Kd.V_nil _ _ _ _ _, Kd.V_nil _ _ _ _ _⟩
end Go.Proofs.Ytfinlgckalbfoaa.PAll
