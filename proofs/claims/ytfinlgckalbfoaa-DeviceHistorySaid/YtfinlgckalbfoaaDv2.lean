/- New on both sides; calls that only make memory, beside two boxes. -/
import Derived.Test.YtfinlgckalbfoaaDu
namespace Go.Proofs.Ytfinlgckalbfoaa.PAll
open Go.RowKit Go.Proofs.YtfinlgckalbfoaaW.PrintWords Go.Proofs.YtfinlgckalbfoaaW.PrintLast Go.Proofs.YtfinlgckalbfoaaW.PrintMore
set_option linter.unusedVariables false
set_option linter.unusedSimpArgs false
attribute [local irreducible] Calls

section
variable {R : Apart} {w0 w : World} {v : Value} {od : Option Dv} {b g : Nat} {u1 u2 u3 u4 : Value} {m : RM} {cs : Array Value}
def doNew (n : Int) : Option Dv := if n < 1 then none else some (dvNew n.toNat)
theorem LDO_New (hR : Stay R) (hr : R w (fun _ => True)) (hB : Below w0.heap.size w0 w) (n : Int) (hn : n ≤ 65536) :
    Calls Try.prog 8 #[.int .i64 n] w fun e w' => ∃ v, e = .returned v ∧ LDO R w0 w' v (doNew n) := by
  unfold doNew
  by_cases c : n < 1
  · rw [if_pos c]
    exact (dev_New_nil n (.inl c) w).mono fun e w' ⟨g1, g2⟩ => ⟨_, g1, LDO.step_below (od := none) hR ⟨rfl, hr, hB⟩ (drawn_below g2)⟩
  · rw [if_neg c]
    exact (LD_New hR hr hB n.toNat n (by omega) (by omega) (by omega)).mono fun e w' ⟨p, g1, g2⟩ => ⟨_, g1, g2⟩
theorem rel_new' (n : Int) (hn : n ≤ 65536) : RelO (doNew n) (rNew n) := by
  unfold doNew
  by_cases c : n < 1
  · rw [if_pos c]
    unfold rNew
    rw [if_pos c]
    exact ⟨rfl, rfl, rfl, rfl⟩
  · rw [if_neg c]
    have := rel_new (n := n.toNat) (by omega) (by omega)
    rwa [show ((n.toNat : Nat) : Int) = n by omega] at this
theorem log_new (n : Int) : logLen (doNew n) = 0 := by
  unfold doNew
  split <;> rfl
theorem LDO_refNew (h : LDO Non w0 w v od) (n : Int) (hn : n ≤ 65536) :
    Calls Try.prog 13 #[.int .i64 n] w fun e w' => ∃ x1 x2 x3 x4, e = .returned (.agg #[.bool (rNew n).nil, x1, x2, x3, x4, .int .i64 (rNew n).left]) ∧ LDO (MVR x1 x2 x3 x4 (rNew n)) w0 w' v od := by
  refine (ref_New n hn).mono fun e w' ⟨x1, x2, x3, x4, g1, g2, g3⟩ => ⟨x1, x2, x3, x4, g1, ?_⟩
  cases od with
  | none => exact ⟨h.1, g2.mono (fun _ _ => trivial), below_then h.2.2 h.2.2.size g3⟩
  | some d =>
    obtain ⟨PT, h1, _, h3⟩ := h
    exact ⟨fun k => PT k ∧ k < w.heap.size, DR_below (DR_mono (DR_bound h1) (fun k hk => ⟨hk.1, hk.2.2⟩)) g3, g2.mono (fun k hk h => by have := h.2; omega), below_then h3 h3.size g3⟩
theorem LDO_made2 {g2 : Nat} {cs2 : Array Value} (h : LDO (AndB (AndB (MVR u1 u2 u3 u4 m) w0.heap.size g cs) w0.heap.size g2 cs2) w0 w v od) {f : FuncId} {args : Array Value} {m2 : RM} {ret : Value → Value → Value → Value → Value}
    (hc : ∀ ok, MV w ok u1 u2 u3 u4 m → Calls Try.prog f args w fun e w' => ∃ x1 x2 x3 x4, e = .returned (ret x1 x2 x3 x4) ∧ MV w' (fun k => ok k ∨ w.heap.size ≤ k) x1 x2 x3 x4 m2 ∧ Below w.heap.size w w') :
    Calls Try.prog f args w fun e w' => ∃ x1 x2 x3 x4, e = .returned (ret x1 x2 x3 x4) ∧ LDO (AndB (AndB (AndV (MVR u1 u2 u3 u4 m) x1 x2 x3 x4 m2) w0.heap.size g cs) w0.heap.size g2 cs2) w0 w' v od := by
  cases od with
  | none =>
    obtain ⟨h1, ⟨⟨h2, h3, h4, h5⟩, q3, q4, q5⟩, h6⟩ := h
    refine (hc _ h2).mono fun e w' ⟨x1, x2, x3, x4, r1, r2, r3⟩ => ⟨x1, x2, x3, x4, r1, h1, ⟨⟨⟨MV.below h2 r3, r2.mono (fun k hk => ?_)⟩, h3, h4, blk_below h5 r3⟩, trivial, q4, blk_below q5 r3⟩, below_then h6 h6.size r3⟩
    rcases hk with hk | hk
    · exact hk
    · exact ⟨⟨trivial, by have := blk_lt q5; omega⟩, by have := blk_lt h5; omega⟩
  | some d =>
    obtain ⟨PT, h1, ⟨⟨h2, h3, h4, h5⟩, q3, q4, q5⟩, h6⟩ := h
    refine (hc _ h2).mono fun e w' ⟨x1, x2, x3, x4, r1, r2, r3⟩ => ⟨x1, x2, x3, x4, r1, fun k => PT k ∧ k < w.heap.size, DR_below (DR_mono (DR_bound h1) (fun k hk => ⟨hk.1, hk.2.2⟩)) r3, ⟨⟨⟨MV.mono (MV.below h2 r3) (fun k hk => ⟨⟨fun h => hk.1.1 h.1, hk.1.2⟩, hk.2⟩), r2.mono (fun k hk => ?_)⟩, ⟨fun h => h3.1 h.1, h3.2⟩, h4, blk_below h5 r3⟩, fun h => q3 h.1, q4, blk_below q5 r3⟩, below_then h6 h6.size r3⟩
    rcases hk with hk | hk
    · exact ⟨⟨fun h => hk.1.1 h.1, hk.1.2⟩, hk.2⟩
    · exact ⟨⟨fun h => by have := h.2; omega, by have := blk_lt q5; omega⟩, by have := blk_lt h5; omega⟩
theorem rel_bounds (h : RelO od m) : m.bl.length ≤ 65536 ∧ m.at_.length ≤ 1000000 ∧ m.pu.length ≤ 1000000 ∧ m.fi.length ≤ 65536 ∨ (od = none ∧ m.bl.length ≤ 65536 ∧ m.at_.length ≤ 1000000 ∧ m.pu.length ≤ 1000000) := by
  cases od with
  | none => exact .inr ⟨rfl, by rw [h.2.1]; simp, by rw [h.2.2.1]; simp, by rw [h.2.2.2]; simp⟩
  | some d =>
    refine .inl ⟨by rw [h.1.b]; exact h.2.n2, by rw [h.1.a, List.length_map]; exact h.2.ll, by rw [h.1.p, List.length_map]; exact h.2.ll, by rw [h.1.f, h.2.nf]; exact h.2.n2⟩
theorem rel_bounds' (h : RelO od m) : m.bl.length ≤ 65536 ∧ m.at_.length ≤ 1000000 ∧ m.pu.length ≤ 1000000 := by
  rcases rel_bounds h with h | h
  · exact ⟨h.1, h.2.1, h.2.2.1⟩
  · exact h.2
/-- After on both sides. -/
def roAfter (od : Option Dv) (m : RM) (n : Int) : RM := match od with | none => m | some d => rAfter m d.log n
theorem rel_after' (h : RelO od m) (n : Int) : RelO (doAfter od n) (roAfter od m n) := by
  cases od with
  | none => exact h
  | some d => exact rel_after h n
theorem roAfter_calls {ok : Nat → Prop} (hr : RelO od m) (h : MV w ok u1 u2 u3 u4 m) (n : Int) : Calls Try.prog 19 #[.agg #[.bool m.nil, u1, u2, u3, u4, .int .i64 m.left], .int .i64 n] w (RPost w (fun k => ok k ∨ w.heap.size ≤ k) (roAfter od m n)) := by
  cases od with
  | none => exact (ref_After_nil h hr.1 n).mono fun e w' ⟨x1, x2, x3, x4, g1, g2, g3⟩ => ⟨x1, x2, x3, x4, g1, g2.mono (fun k hk => .inl hk), g3⟩
  | some d => exact (ref_After h hr.1.n d.log (log_m hr) hr.2.ll (by rw [hr.1.f, hr.2.nf]; exact hr.2.n2) n).mono fun e w' ⟨x1, x2, x3, x4, g1, g2, g3⟩ => ⟨x1, x2, x3, x4, g1, g2.mono (fun k hk => .inr hk), g3⟩
theorem log_write (h : logLen od < 1000000) (i : Int) (s : ByteArray) : logLen (doWrite od i s).2 ≤ logLen od + 1 := by
  cases od with
  | none => exact Nat.zero_le _
  | some d =>
    show (dvWrite d i s).2.log.length ≤ d.log.length + 1
    unfold dvWrite
    repeat' split
    all_goals (first | exact Nat.le_succ _ | simp)
theorem log_limit (n : Int) : logLen (doLimit od n) = logLen od := by
  cases od <;> rfl
theorem log_after (n : Int) : logLen (doAfter od n) = 0 := by
  cases od <;> rfl
end
end Go.Proofs.Ytfinlgckalbfoaa.PAll
