/- A device (or none) beside the reference's in its box: what each operation leaves of both. -/
import Derived.Test.YtfinlgckalbfoaaDe
import Derived.Test.YtfinlgckalbfoaaPAllx4
import Derived.Test.YtfinlgckalbfoaaPAllx3
namespace Go.Proofs.Ytfinlgckalbfoaa.PAll
open Go.RowKit Go.Proofs.YtfinlgckalbfoaaW.PrintWords Go.Proofs.YtfinlgckalbfoaaW.PrintLast Go.Proofs.YtfinlgckalbfoaaW.PrintMore
set_option linter.unusedVariables false
set_option linter.unusedSimpArgs false
attribute [local irreducible] Calls

abbrev Apart := World → (Nat → Prop) → Prop
/-- A device or none, and R apart from it. -/
def LDO (R : Apart) (w0 w : World) (v : Value) (od : Option Dv) : Prop := match od with
  | some d => LD R w0 w v d
  | none => v = .pointer none ∧ R w (fun _ => True) ∧ Below w0.heap.size w0 w
/-- R, and a box apart from it. -/
def AndB (R : Apart) (b g : Nat) (cs : Array Value) : Apart := fun w ok => R w (fun k => ok k ∧ k ≠ g) ∧ (ok g ∧ b ≤ g ∧ w.heap[g]? = some (.cells cs 36 (0, 0)))
def MVR (u1 u2 u3 u4 : Value) (m : RM) : Apart := fun w ok => MV w ok u1 u2 u3 u4 m
def AndV (R : Apart) (u1 u2 u3 u4 : Value) (m : RM) : Apart := fun w ok => R w ok ∧ MV w ok u1 u2 u3 u4 m
theorem stay_mvr (u1 u2 u3 u4 : Value) (m : RM) : Stay (MVR u1 u2 u3 u4 m) := ⟨fun h hm => MV.mono h hm, fun h hk hs => MV.kept h hk hs⟩
theorem stay_andV {R : Apart} (hR : Stay R) (u1 u2 u3 u4 : Value) (m : RM) : Stay (AndV R u1 u2 u3 u4 m) :=
  ⟨fun h hm => ⟨hR.mono h.1 hm, MV.mono h.2 hm⟩, fun h hk hs => ⟨hR.kept h.1 hk hs, MV.kept h.2 hk hs⟩⟩
theorem stay_andB {R : Apart} (hR : Stay R) (b g : Nat) (cs : Array Value) : Stay (AndB R b g cs) :=
  ⟨fun h hm => ⟨hR.mono h.1 (fun k hk => ⟨hm k hk.1, hk.2⟩), hm g h.2.1, h.2.2.1, h.2.2.2⟩,
   fun h hk hs => ⟨hR.mono (hR.kept h.1 hk (fun k hk => hs k hk.1)) (fun k hk => ⟨⟨hk.1.1, hk.2⟩, hk.1.2⟩), ⟨h.2.1, hs g h.2.1, blk_lt h.2.2.2⟩, h.2.2.1, (hk.2 g (blk_lt h.2.2.2) (hs g h.2.1)).trans h.2.2.2⟩⟩
section
variable {R R' : Apart} {w0 w w1 : World} {v : Value} {od : Option Dv} {b g : Nat} {cs cs' : Array Value}
theorem LDO.below (h : LDO R w0 w v od) : Below w0.heap.size w0 w := by
  cases od with
  | none => exact h.2.2
  | some d => exact LD.below h
theorem LDO.step_below (hR : Stay R) (h : LDO R w0 w v od) (hb : Below w.heap.size w w1) : LDO R w0 w1 v od := by
  cases od with
  | none => exact ⟨h.1, hR.mono (hR.below h.2.1 hb) (fun _ _ => trivial), below_then h.2.2 h.2.2.size hb⟩
  | some d => exact LD.step_below hR h hb
theorem LDO.weaken (h : LDO R w0 w v od) (hw : ∀ w ok, R w ok → R' w ok) : LDO R' w0 w v od := by
  cases od with
  | none => exact ⟨h.1, hw _ _ h.2.1, h.2.2⟩
  | some d =>
    obtain ⟨PT, h1, h2, h3⟩ := h
    exact ⟨PT, h1, hw _ _ h2, h3⟩
/-- Something more is made: a box of its own. -/
theorem LDO.alloc (hR : Stay R) (h : LDO R w0 w v od) (hb : Below w.heap.size w w1) (hg : g = w.heap.size) (hc : w1.heap[g]? = some (.cells cs 36 (0, 0))) : LDO (AndB R w0.heap.size g cs) w0 w1 v od := by
  cases od with
  | none => exact ⟨h.1, ⟨hR.mono (hR.below h.2.1 hb) (fun k hk => ⟨trivial, by have := hk.2; omega⟩), trivial, by rw [hg]; exact h.2.2.size, hc⟩, below_then h.2.2 h.2.2.size hb⟩
  | some d =>
    obtain ⟨PT, h1, h2, h3⟩ := h
    exact ⟨fun k => PT k ∧ k < w.heap.size, DR_below (DR_mono (DR_bound h1) (fun k hk => ⟨hk.1, hk.2.2⟩)) hb, ⟨hR.mono (hR.below h2 hb) (fun k hk => ⟨fun h => hk.1 h.1, by have := hk.2; omega⟩), fun h => by have := h.2; omega, by rw [hg]; exact h3.size, hc⟩, below_then h3 h3.size hb⟩
/-- The box is written. -/
theorem LDO.put (hR : Stay R) (h : LDO (AndB R w0.heap.size g cs) w0 w v od) (hg : w.grownBy w1 (some g)) (hc : w1.heap[g]? = some (.cells cs' 36 (0, 0))) : LDO (AndB R w0.heap.size g cs') w0 w1 v od := by
  have hk : Kept w w1 (fun k => k = g) := ⟨hg.size, fun k hl hn => hg.block k hl (fun e => hn (by cases e; rfl))⟩
  cases od with
  | none =>
    obtain ⟨h1, ⟨h2, h3, h4, h5⟩, h6⟩ := h
    exact ⟨h1, ⟨hR.mono (hR.kept h2 hk (fun k h => h.2)) (fun k h => h.1), trivial, h4, hc⟩, h6.grown hg h6.size (fun k e => by cases e; exact h4)⟩
  | some d =>
    obtain ⟨PT, h1, ⟨h2, h3, h4, h5⟩, h6⟩ := h
    refine ⟨PT, DR_mono (DR_keptB h1 hk (fun k h e => h3 (by rw [← e]; exact h))) (fun k h => h.1), ⟨hR.mono (hR.kept h2 hk (fun k h => h.2)) (fun k h => h.1), h3, h4, hc⟩, h6.grown hg h6.size (fun k e => by cases e; exact h4)⟩
theorem LDO.swap {g2 : Nat} {cs2 : Array Value} (hR : Stay R) (h : LDO (AndB (AndB R w0.heap.size g cs) w0.heap.size g2 cs2) w0 w v od) : LDO (AndB (AndB R w0.heap.size g2 cs2) w0.heap.size g cs) w0 w v od :=
  h.weaken fun w ok ⟨⟨h1, h2, h3, h4⟩, h5, h6, h7⟩ => ⟨⟨hR.mono h1 (fun k hk => ⟨⟨hk.1.1, hk.2⟩, hk.1.2⟩), ⟨h5, fun e => h2.2 e.symm⟩, h6, h7⟩, h2.1, h3, h4⟩
theorem LDO.cells (h : LDO (AndB R b g cs) w0 w v od) : w.heap[g]? = some (.cells cs 36 (0, 0)) := by
  cases od with
  | none => exact h.2.1.2.2.2
  | some d =>
    obtain ⟨PT, h1, h2, h3⟩ := h
    exact h2.2.2.2
end
/-- The operations on a device or none. -/
def doWrite (od : Option Dv) (i : Int) (s : ByteArray) : Int × Option Dv := match od with | none => (1, none) | some d => ((dvWrite d i s).1, some (dvWrite d i s).2)
def doLimit (od : Option Dv) (n : Int) : Option Dv := od.map fun d => dvLimit d n
def doAfter (od : Option Dv) (n : Int) : Option Dv := od.map fun d => dvAfter d n
def doRead (od : Option Dv) (i : Int) : ByteArray × Int := match od with | none => (⟨#[]⟩, 1) | some d => dvRead d i
def logLen (od : Option Dv) : Nat := match od with | none => 0 | some d => d.log.length
section
variable {R : Apart} {w0 w : World} {v : Value} {od : Option Dv}
theorem LDO_Write (hR : Stay R) (h : LDO R w0 w v od) (hl : logLen od < 1000000) (i : Int) (s : ByteArray) :
    Calls Try.prog 10 #[v, .int .i64 i, .string s] w fun e w' => e = .returned (.int .i64 (doWrite od i s).1) ∧ LDO R w0 w' v (doWrite od i s).2 := by
  cases od with
  | none =>
    obtain ⟨rfl, h2⟩ := h
    exact (dev_Write_nil w i s).mono fun e w' ⟨g1, g2⟩ => ⟨g1, LDO.step_below (od := none) hR ⟨rfl, h2⟩ (drawn_below g2)⟩
  | some d => exact LD_Write hR h hl i s _ _ rfl
theorem LDO_Limit (hR : Stay R) (h : LDO R w0 w v od) (n : Int) :
    Calls Try.prog 9 #[v, .int .i64 n] w fun e w' => e = .returned (.tuple #[]) ∧ LDO R w0 w' v (doLimit od n) := by
  cases od with
  | none =>
    obtain ⟨rfl, h2⟩ := h
    exact (dev_Limit_nil w n).mono fun e w' ⟨g1, g2⟩ => ⟨g1, LDO.step_below (od := none) hR ⟨rfl, h2⟩ (drawn_below g2)⟩
  | some d => exact LD_Limit hR h n
theorem LDO_Read (hR : Stay R) (h : LDO R w0 w v od) (i : Int) (r1 : ByteArray) (r2 : Int) (hr : doRead od i = (r1, r2)) :
    Calls Try.prog 16 #[v, .int .i64 i] w fun e w' => e = .returned (.tuple #[.string r1, .int .i64 r2]) ∧ LDO R w0 w' v od := by
  cases od with
  | none =>
    obtain ⟨rfl, h2⟩ := h
    simp only [doRead, Prod.mk.injEq] at hr
    obtain ⟨rfl, rfl⟩ := hr
    exact (dev_Read_nil w i).mono fun e w' ⟨g1, g2⟩ => ⟨g1, LDO.step_below (od := none) hR ⟨rfl, h2⟩ (drawn_below g2)⟩
  | some d =>
    refine (LD_Read hR h i r1 r2 hr).mono ?_
    rintro e w' ⟨g1, n, rfl⟩
    exact ⟨g1, LD.drewN hR h n⟩
theorem LDO_After (hR : Stay R) (h : LDO R w0 w v od) (n : Int) :
    Calls Try.prog 11 #[v, .int .i64 n] w fun e w' => ∃ v2, e = .returned v2 ∧ LDO R w0 w' v2 (doAfter od n) := by
  cases od with
  | none =>
    obtain ⟨rfl, h2⟩ := h
    exact (dev_After_nil w n).mono fun e w' ⟨g1, g2⟩ => ⟨_, g1, LDO.step_below (od := none) hR ⟨rfl, h2⟩ (drawn_below g2)⟩
  | some d => exact (LD_After hR h n).mono fun e w' ⟨p, g1, g2⟩ => ⟨_, g1, g2⟩
/-- The device against the reference's. -/
def RelO (od : Option Dv) (m : RM) : Prop := match od with
  | none => m.nil = true ∧ m.bl = [] ∧ m.at_ = [] ∧ m.pu = []
  | some d => RelD d m ∧ DGood d
theorem LDO_sames (h : LDO R w0 w v od) {m : RM} (hr : RelO od m) : Sames w v m := by
  cases od with
  | none =>
    obtain ⟨rfl, _⟩ := h
    exact sames_nil w hr.1 hr.2.1 hr.2.2.1
  | some d =>
    obtain ⟨PT, h1, _, _⟩ := h
    exact sames_dev h1 hr.1
variable {b g : Nat} {u1 u2 u3 u4 : Value} {m : RM} {cs : Array Value}
/-- What the box holds, read. -/
theorem LDO.mv (h : LDO (AndB (MVR u1 u2 u3 u4 m) b g cs) w0 w v od) : ∃ ok, MV w ok u1 u2 u3 u4 m := by
  cases od with
  | none => exact ⟨_, h.2.1.1⟩
  | some d =>
    obtain ⟨PT, h1, h2, h3⟩ := h
    exact ⟨_, h2.1⟩
/-- A call that only makes memory and hands back rows out of those of the box, or new ones. -/
theorem LDO_made (h : LDO (AndB (MVR u1 u2 u3 u4 m) w0.heap.size g cs) w0 w v od) {f : FuncId} {args : Array Value} {Q : Value → Prop} {m2 : RM} {ret : Value → Value → Value → Value → Value}
    (hc : ∀ ok, MV w ok u1 u2 u3 u4 m → Calls Try.prog f args w fun e w' => ∃ x1 x2 x3 x4, e = .returned (ret x1 x2 x3 x4) ∧ MV w' (fun k => ok k ∨ w.heap.size ≤ k) x1 x2 x3 x4 m2 ∧ Below w.heap.size w w') :
    Calls Try.prog f args w fun e w' => ∃ x1 x2 x3 x4, e = .returned (ret x1 x2 x3 x4) ∧ LDO (AndB (AndV (MVR u1 u2 u3 u4 m) x1 x2 x3 x4 m2) w0.heap.size g cs) w0 w' v od := by
  cases od with
  | none =>
    obtain ⟨h1, ⟨h2, h3, h4, h5⟩, h6⟩ := h
    refine (hc _ h2).mono fun e w' ⟨x1, x2, x3, x4, g1, g2, g3⟩ => ⟨x1, x2, x3, x4, g1, h1, ⟨⟨MV.mono (MV.below h2 g3) (fun k hk => hk), g2.mono (fun k hk => ⟨trivial, hk.elim (fun h => h.2) (fun h => by have := blk_lt h5; omega)⟩)⟩, trivial, h4, blk_below h5 g3⟩, below_then h6 h6.size g3⟩
  | some d =>
    obtain ⟨PT, h1, ⟨h2, h3, h4, h5⟩, h6⟩ := h
    refine (hc _ h2).mono fun e w' ⟨x1, x2, x3, x4, g1, g2, g3⟩ => ⟨x1, x2, x3, x4, g1, fun k => PT k ∧ k < w.heap.size, DR_below (DR_mono (DR_bound h1) (fun k hk => ⟨hk.1, hk.2.2⟩)) g3, ⟨⟨MV.mono (MV.below h2 g3) (fun k hk => ⟨fun h => hk.1 h.1, hk.2⟩), g2.mono (fun k hk => ?_)⟩, fun h => h3 h.1, h4, blk_below h5 g3⟩, below_then h6 h6.size g3⟩
    rcases hk with hk | hk
    · exact ⟨fun h => hk.1 h.1, hk.2⟩
    · exact ⟨fun h => by have := h.2; omega, by have := blk_lt h5; omega⟩
end
end Go.Proofs.Ytfinlgckalbfoaa.PAll
