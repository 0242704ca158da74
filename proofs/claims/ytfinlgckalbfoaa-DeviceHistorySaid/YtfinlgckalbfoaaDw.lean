/- The walk of Write (package device). -/
import Derived.Test.YtfinlgckalbfoaaDn
namespace Go.Proofs.Ytfinlgckalbfoaa.PAll
open Go.RowKit Go.Proofs.YtfinlgckalbfoaaW.PrintWords Go.Proofs.YtfinlgckalbfoaaW.PrintLast Go.Proofs.YtfinlgckalbfoaaW.PrintMore
set_option linter.unusedVariables false
set_option linter.unusedSimpArgs false
attribute [local irreducible] Calls

/-- A string, padded with zero bytes. -/
def padB (s : ByteArray) : ByteArray := ⟨s.data ++ Array.replicate (64 - s.size) 0⟩
theorem padB_size {s : ByteArray} (h : s.size ≤ 64) : (padB s).size = 64 := by
  show (s.data ++ Array.replicate (64 - s.size) 0).size = 64
  rw [Array.size_append, Array.size_replicate]
  show s.size + _ = _
  omega
theorem bcs_data (b : ByteArray) : bcs b = b.data.toList.map fun x => Value.int .u8 (x.toNat : Int) := by
  unfold bcs bytesOf
  rw [List.map_map]
  rfl
theorem bcs_pad {s : ByteArray} (h : s.size ≤ 64) : bcs s ++ (bcs zB).drop s.size = bcs (padB s) := by
  rw [bcs_data, bcs_data, bcs_data, ← List.map_drop, ← List.map_append]
  congr 1
  show s.data.toList ++ (Array.replicate 64 (0 : UInt8)).toList.drop s.size = (s.data ++ Array.replicate (64 - s.size) 0).toList
  rw [Array.toList_append, Array.toList_replicate, Array.toList_replicate, List.drop_replicate]
theorem strCells_eq (s : ByteArray) : Lib.strCells s = bcs s := by
  rw [bcs_data]
  unfold Lib.strCells
  simp
theorem alloc54 (w : World) : (newVar 54 (.agg (bcs zB).toArray)).run Try.prog w = .ok ⟨w.heap.size, 0, none⟩ (w.alloc (.cells (bcs zB).toArray 54 (0, 0))) := by
  rfl
/-- copy of a string into a fresh block. -/
theorem copy_str {w : World} {g : Nat} {s : ByteArray} (ty : TypeId) (h : s.size ≤ 64) (hg : w.heap[g]? = some (.cells (bcs zB).toArray 54 (0, 0))) :
    ∃ w1, (Builtin.copy_ #[47, 9] ty #[.slice (some ⟨g, 0, none⟩) 64 64, .string s]).run Try.prog w = .ok (goInt s.size) w1 ∧ w1.heap[g]? = some (.cells (bcs (padB s)).toArray 54 (0, 0)) ∧ w.grownBy w1 (some g) := by
  have hz : (bcs zB).length = 64 := by rw [bcs_length]; rfl
  have hl : (bcs s).length = s.size := bcs_length s
  obtain ⟨cur', k1, k2, k3⟩ := setCells_row (bcs s) 0 w _ hg (by rw [List.size_toArray, hz]; omega)
  obtain ⟨s1, s2, s3, s4⟩ := setCells_same g (bcs s) 0 w
  refine ⟨w.setCells g 0 (bcs s), ?_, ?_, ⟨s1, s2, s3, by rw [s4]; exact Nat.le_refl _, fun k _ hk => setCells_far _ _ k (fun he => hk (by rw [he]))⟩⟩
  · have hst := run_storeCells_cells (P := Try.prog) g 0 (bcs s) 0 w (fun j hj => by rw [cell_of_row w g _ _ 54 (0, 0) hg]; simp [hz]; omega) (fun j _ => blk_frozen hg _) (bcs_one s)
    have hi : (Try.prog.info? 5).map (·.size) = some 1 := by kernel_rfl
    obtain ⟨i, hi1, hi2⟩ := Option.map_eq_some_iff.1 hi
    have hf := Lib.run_firstCells_string (P := Try.prog) w 1 s
    rw [strCells_eq] at hf
    have hmin : Nat.min s.size 64 = s.size := Nat.min_eq_left h
    simp only [Nat.add_zero] at hst
    simp [Builtin.copy_, run_underlying Try.underlying47, Builtin.lenOf, sizeOf, typeInfo, hi1, hi2, hf, hst, hmin]
  · rw [k1, show cur' = (bcs (padB s)).toArray from by
      apply Array.ext'
      rw [k3, List.take_zero, List.nil_append, hl, Nat.zero_add, ← bcs_pad h]]
def dvWrite (d : Dv) (i : Int) (s : ByteArray) : Int × Dv :=
  if i < 0 ∨ (d.now.length : Int) ≤ i then (2, d) else if (64 : Int) < s.size then (5, d) else if d.lim = true ∧ d.left = 0 then (20, d)
  else (0, { d with now := d.now.set i.toNat (padB s), log := d.log ++ [(i, padB s)], left := if d.lim = true then wrap64 (d.left - 1) else d.left })
section
variable {w : World} {base : Nat} {ok : Nat → Prop} {v : Value} {d : Dv}
set_option maxHeartbeats 16000000 in
set_option maxRecDepth 1000000 in
theorem dev_Write_err (h : DR w base ok v d) (i : Int) (s : ByteArray) (r : Int) (hr : dvWrite d i s = (r, d)) (h0 : r ≠ 0) : Calls Try.prog 10 #[v, .int .i64 i, .string s] w fun e w' => e = .returned (.int .i64 r) ∧ Drawn0 w w' := by
  obtain ⟨g, p, sf, sl, sn, rfl, hc⟩ := h
  obtain ⟨A, c, rfl⟩ := Kd.R_slice hc.N
  have e2 := hc.c2
  have e3 := hc.c3
  have e4 := hc.c4
  unfold dvWrite at hr
  clear hc g
  by_cases c1 : i < 0
  · rw [if_pos (.inl c1)] at hr
    simp only [Prod.mk.injEq, and_true] at hr
    subst hr
    have c1b : decide (i < 0) = true := decide_eq_true c1
    go_enter Try.func10, Try.ntmps10
    go_wp2
    go_ret
    exact ⟨by first | rfl | (simp; done) | (simp [*]; done), by repeat (first | exact Drawn0.refl _ | apply Drawn0.step)⟩
  · by_cases c2 : (d.now.length : Int) ≤ i
    · rw [if_pos (.inr c2)] at hr
      simp only [Prod.mk.injEq, and_true] at hr
      subst hr
      have c1b : decide (i < 0) = false := decide_eq_false c1
      have c2b : decide ((d.now.length : Int) ≤ i) = true := decide_eq_true c2
      go_enter Try.func10, Try.ntmps10
      go_wp2
      go_ret
      exact ⟨by first | rfl | (simp; done) | (simp [*]; done), by repeat (first | exact Drawn0.refl _ | apply Drawn0.step)⟩
    · rw [if_neg (by omega)] at hr
      have c1b : decide (i < 0) = false := decide_eq_false c1
      have c2b : decide ((d.now.length : Int) ≤ i) = false := decide_eq_false c2
      by_cases c3 : (64 : Int) < s.size
      · rw [if_pos c3] at hr
        simp only [Prod.mk.injEq, and_true] at hr
        subst hr
        have c3b : decide ((64 : Int) < s.size) = true := decide_eq_true c3
        go_enter Try.func10, Try.ntmps10
        go_wp2
        go_ret
        exact ⟨by first | rfl | (simp; done) | (simp [*]; done), by repeat (first | exact Drawn0.refl _ | apply Drawn0.step)⟩
      · rw [if_neg c3] at hr
        by_cases c4 : d.lim = true ∧ d.left = 0
        · rw [if_pos c4] at hr
          simp only [Prod.mk.injEq, and_true] at hr
          subst hr
          have c3b : decide ((64 : Int) < s.size) = false := decide_eq_false c3
          obtain ⟨c5, c6⟩ := c4
          rw [c5] at e3
          rw [c6] at e4
          go_enter Try.func10, Try.ntmps10
          go_wp2
          go_ret
          exact ⟨by first | rfl | (simp; done) | (simp [*]; done), by repeat (first | exact Drawn0.refl _ | apply Drawn0.step)⟩
        · rw [if_neg c4] at hr
          simp only [Prod.mk.injEq] at hr
          exact absurd hr.1.symm h0
end
end Go.Proofs.Ytfinlgckalbfoaa.PAll
